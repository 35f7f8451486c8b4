/- Copies: data that equality does not tell apart. Conditions: none. -/
import Derived.Test.YtminhjecpnpaeaaGreatDoorUv
import Derived.Test.YtminhjecpnpaeaaGreatDoorBd
set_option linter.unusedVariables false
set_option linter.unusedSimpArgs false
namespace Go.Am
open Go
def wU(el sz:Nat)(d:D):D:=.sl el sz d.es
def aR(a h:D):Prop:=∀b,gL h b=gL a b/\gL b h=gL b a
theorem aR.refl(a:D):aR a a:=λ_=>⟨rfl,rfl⟩
def aQ:List D->List D->Prop
 | [],[]=>True
 |a::h,b::x=>aR a b/\aQ h x
 |_,_=>False
theorem aQ.deqs:∀{us x:List D},aQ us x->∀y,deqs x y=deqs us y/\deqs y x=deqs y us
 | [],[],_,_=>⟨rfl,rfl⟩
 | [],_::_,h,_=>by cases h
 |_::_,[],h,_=>by cases h
 |a::us,i::x,h,[]=>⟨rfl,rfl⟩
 |a::us,i::x,h,b::y=>by obtain⟨g,e⟩:=h.1 b;obtain⟨h3,c⟩:=aQ.deqs h.2 y;simp only[qD,g,e,h3,c,and_self]
theorem aR.agg{us x:List D}(h:aQ us x):aR (.agg us) (.agg x):=by
 intro b;cases b with
 |agg e=>obtain⟨c,y⟩:=h.deqs e;simp only[qP,c,y,and_self]
 |_=>exact⟨by simp only[gL],by simp only[gL]⟩
theorem aQ.empty:∀{us x:List D},aQ us x->x.isEmpty=us.isEmpty
 | [],[],_=>rfl
 | [],_::_,h=>by cases h
 |_::_,[],h=>by cases h
 |_::_,_::_,_=>rfl
theorem aR.sl{el sz zS x:Nat}{a:D}{es:List D}(e:xA zS x a)(h:aQ a.es es):aR a (.sl el sz es):=by
 intro b;rcases e with rfl|⟨c,rfl,_⟩
 ·have h:aQ [] es:=h;cases es with
  |cons _ _=>cases h
  |nil=>
   cases b with
   |nil=>exact⟨by simp only[gL,List.isEmpty_nil],by simp only[gL,List.isEmpty_nil]⟩
   |sl _ _ y=>cases y<;>exact⟨by simp[gL,Go.Am.deqs],by simp[gL,Go.Am.deqs]⟩
   |_=>exact⟨by simp only[gL],by simp only[gL]⟩
 have h:aQ c es:=h;cases b with
 |nil=>exact⟨by simp only[gL];exact h.empty,by simp only[gL];exact h.empty⟩
 |sl _ _ y=>obtain⟨i,g⟩:=h.deqs y;exact⟨by simp only[gL,i],by simp only[gL,g]⟩
 |_=>exact⟨by simp only[gL],by simp only[gL]⟩
theorem qEB:∀h:List D,aQ h h
 | []=>trivial
 |a::h=>⟨.refl a,qEB h⟩
theorem bP{f:D->D}:∀{us:List D},(∀x∈us,aR x (f x))->aQ us (us.map f)
 | [],_=>trivial
 |a::us,h=>⟨h a List.mem_cons_self,bP λx y=>h x (mC _ y)⟩
theorem qRK{el sz zS h:Nat}{a:D}(x:xA zS h a):aR a (wU el sz a):=.sl x (qEB _)
theorem qRJ{el sz zS y:Nat}{a:D}{f:D->D}(b:xA zS y a)(h:∀x∈a.es,aR x (f x)):aR a (.sl el sz (a.es.map f)):=.sl b (bP h)
theorem qDJ(es:List D)(k:∀x∈es,gL x x=true):deqs es es=true:=by
 induction es with
 |nil=>rfl
 |cons a y ih=>simp only[qD,k a List.mem_cons_self,ih λx h=>k x (mC _ h),Bool.and_self]
mutual
theorem qC3:∀{s:Sh} {d:D},vF s d->gL d d=true
 |.int k,d,h=>by obtain⟨n,rfl⟩:=h;simp[gL,qLk]
 |.bool,d,h=>by obtain⟨n,rfl⟩:=h;simp[gL,qLk]
 |.str,d,h=>by obtain⟨n,rfl⟩:=h;simp only[gL,qLk];exact qDf n
 |.st b,d,h=>by simp only[vF]at h;obtain⟨cs,rfl,h⟩:=h;simp only[gL];exact qEE h
 |.sl el sz e,d,h=>by
  simp only[vF]at h;rcases h with rfl|⟨es,rfl,_,h⟩
  ·rfl
  simp only[gL];exact qDJ es λx y=>qC3 (s:=e) (h x y)
theorem qEE:∀{ss:List Sh} {ds:List D},jB ss ds->deqs ds ds=true
 | [],ds,h=>by simp only[jB]at h;subst h;rfl
 |s::ss,ds,h=>by simp only[jB]at h;obtain⟨d,r,rfl,y,x⟩:=h;simp only[qD,qC3 y,qEE x,Bool.and_self]
end
section
variable{E:Env}{B:Nat}
theorem mR{el sz:Nat}:TOp.eval E (.lit el sz) []=some (.sl el sz []):=by rw[qAt];show(bif true&&Nat.ble (0*(sz+1)) 1000000 then _ else _)=_;rw[Nat.zero_mul];rfl
theorem qIS{el sz:Nat}{x:D}(h:x.cells.length=sz)(y:Nat.ble sz 1000=true):TOp.eval E (.lit el sz) [x]=some (.sl el sz [x]):=by
 rw[qAt];have c:Nat.beq x.cells.length sz=true:=by rw[h];exact Nat.beq_refl _
 have b:Nat.ble (Nat.mul [x].length (Nat.succ sz)) 1000000=true:=by have:=o9 y;refine bL ?_;show 1*(sz+1)<=1000000;omega
 simp only[List.all_cons,List.all_nil,c,b,Bool.and_self,cond_true]
theorem eN{n bytes:Nat}(h:n<=4000000)(b:bytes<=1000):Nat.ble (Nat.mul (Nat.add (Nat.mul 4 n) 4000) (Nat.succ bytes)) 100000000000=true:=by
 rw[Nat.ble_eq];have y:4*n+4000<=16004000:=by omega
 have x:bytes+1<=1001:=by omega
 exact lT (Nat.mul_le_mul y x) (o9 rfl)
theorem yC{el sz bytes:Nat}{d:D}{e:Sh}(hd:qC B (.sl el sz e) d)(h:bytes<=1000)(l:d.es.length<=2000000):TOp.eval E (.app el sz bytes) [.sl el sz [],d]=some (wU el sz d):=by
 rw[aJ];have g:∀(b:Bool) (x y:Option D),b=true->(bif b then x else y)=x:=λb x y h=>by rw[h];rfl
 simp only[qC]at hd;have c:pX (.sl el sz [])=some 0:=rfl;rw[c];rcases hd with rfl|⟨es,rfl,_,_⟩
 ·exact g _ _ _ (eN (by omega) h)
 have i:Nat.beq sz sz=true:=Nat.beq_refl _;have j:Nat.ble (Nat.mul (Nat.add (Nat.mul 4 (Nat.add 0 es.length)) 4000) (Nat.succ bytes)) 100000000000=true:=eN (by have:(D.sl el sz es).es.length=es.length:=rfl;show 0+es.length<=_;omega) h;refine(g _ _ _ (by rw[j,i];show(true&&true&&(Nat.beq el el&&Nat.beq sz sz))=true;rw[Nat.beq_refl,Nat.beq_refl];rfl)).trans ?_;rw[qY];split
 ·rename_i k;have:es=[]:=List.length_eq_zero_iff.1 k;subst this;rfl
 rfl
theorem bT{el sz bytes:Nat}{l:List D}{y:D}(c:bytes<=1000)(j:l.length<=2000000):TOp.eval E (.app el sz bytes) [.sl el sz l,.sl el sz [y]]=some (.sl el sz (l++[y])):=by
 rw[aJ];have e:∀(b:Bool) (x y:Option D),b=true->(bif b then x else y)=x:=λb x y c=>by rw[c];rfl
 have g:Nat.beq sz sz=true:=Nat.beq_refl _;have h:pX (.sl el sz l)=some l.length:=rfl;rw[h];have i:Nat.ble (Nat.mul (Nat.add (Nat.mul 4 (Nat.add l.length [y].length)) 4000) (Nat.succ bytes)) 100000000000=true:=eN (by show l.length+1<=_;omega) c;exact(e _ _ _ (by rw[i,g];show(true&&true&&(Nat.beq el el&&Nat.beq sz sz))=true;rw[Nat.beq_refl,Nat.beq_refl];rfl)).trans rfl
theorem dJ{f:D->D}{l:List D}{i:Nat}{x:D}(h:l[i]? = some x):(l.take (i+1)).map f=(l.take i).map f++[f x]:=by rw[List.take_add_one,h,List.map_append];rfl
theorem oC{f:D->D}{l:List D}{i:Nat}(h:¬i<l.length):(l.take i).map f=l.map f:=by rw[List.take_of_length_le (by omega)]
theorem dK{f:D->D}{l:List D}{i:Nat}:((l.take i).map f).length<=l.length:=by rw[List.length_map,List.length_take];exact Nat.min_le_right _ _
end
end Go.Am
namespace Go.Proofs.YtminhjecpnpaeaaGreatDoor
open Go Go.Am Go.Proofs
attribute [local irreducible] Go.Am.wp Go.Am.TOp.eval
abbrev qJE:Sh:=.st [.int .i64,.int .i64]
abbrev qWv:Sh:=.st [.int .i64,aV,.int .i64,.sl 31 1 aV,.int .i64,.sl 94 2 (.st [.str,.str]),.sl 66 2 qJE,.sl 120 2 qJE]
abbrev qMH:Sh:=.st [.str,aV]
abbrev qEM:Sh:=.st [aV,aV,.sl 58 2 qJE,.sl 58 2 qJE,.bool,.bool]
abbrev qMI:Sh:=.st [.sl 81 2 (.st [.str,.int .i64]),.str,.sl 77 2 qMH,.sl 50 1 (.sl 9 1 .str),.sl 39 6 qEM,.int .i64,.sl 92 3 (.st [.int .i64,.int .i64,.int .i64]),aV,.sl 64 8 qWv]
def qMq:D->D
 |.agg [e,x1,c,b,y,x5,x,h]=>.agg [e,wU 3 1 x1,c,.sl 31 1 (b.es.map (wU 3 1)),y,wU 94 2 x5,wU 66 2 x,wU 120 2 h]
 |d=>d
def qJp:D->D
 |.agg [h,x1]=>.agg [h,wU 3 1 x1]
 |d=>d
def qKX:D->D
 |.agg [b,x1,y,x,h,x5]=>.agg [wU 3 1 b,wU 3 1 x1,wU 58 2 y,wU 58 2 x,h,x5]
 |d=>d
def qYS:D->D
 |.agg [g,x1,e,c,b,x5,y,x,h]=>.agg [wU 81 2 g,x1,.sl 77 2 (e.es.map qJp),.sl 50 1 (c.es.map (wU 9 1)),.sl 39 6 (b.es.map qKX),x5,wU 92 3 y,wU 3 1 x,.sl 64 8 (h.es.map qMq)]
 |d=>d
variable{B:Nat}
theorem zBV{k j g:Int}{x1 h x5 c b:D}(u:qC 1048576 aV x1)(h3:qC 1048576 (.sl 31 1 aV) h)(t:qC 1048576 (.sl 94 2 (.st [.str,.str])) x5)(r:qC 1048576 (.sl 66 2 qJE) c)(q:qC 1048576 (.sl 120 2 qJE) b):Holds EE 31 [.agg [dI k,x1,dI j,h,dI g,x5,c,b]] (qMq (.agg [dI k,x1,dI j,h,dI g,x5,c,b])):=by
 refine zBq rfl (qX.step' ?_);have w:=qB u;have l:=qB h3;have F:=qB t;have C:=qB r;have A:=qB q;have N:=qK u;have M:=qK h3;have L:=qK t;have K:=qK r;have J:=qK q;refine bS (zH rfl) ?_;refine bS mR ?_;refine bS (qA (off:=1) rfl w.one) ?_;refine bS (d:=wU 3 1 x1) (yC u (by decide) (by omega)) ?_;refine bS (zH rfl) ?_;refine bS (qA (off:=0) rfl rfl) ?_;refine bS (qA (off:=1) rfl w.one) ?_;refine bS (qA (off:=2) rfl rfl) ?_;refine bS (qA (off:=3) rfl l.one) ?_;refine bS (qA (off:=4) rfl rfl) ?_;refine bS (qA (off:=5) rfl F.one) ?_;refine bS (qA (off:=6) rfl C.one) ?_;refine bS (qA (off:=7) rfl A.one) ?_;refine bS mR ?_;refine zG rfl (xK (P:=λ(i:Nat)=>∀out:List D,out=(h.es.take i).map (wU 3 1)->i<=h.es.length->qX EE (Holds EE) qS3 1 [.sl 31 1 out,dI ((i:Nat):Int),dI k,wU 3 1 x1,dI j,h,dI g,x5,c,b] (qMq (.agg [dI k,x1,dI j,h,dI g,x5,c,b]))) h.es.length (λi ih=>?_) 0 [] (by simp) (Nat.zero_le _));intro out p H;refine qX.step' ?_;have G:out.length<=h.es.length:=by rw[p];exact dK
 refine bS (qM l) ?_;refine bS vY ?_;refine iC (λc0=>?_) λc0=>?_
 ·replace c0:=yB c0;have x:i<h.es.length:=by omega
  have he:h.es[i]? = some h.es[i]:=List.getElem?_eq_getElem x;generalize h.es[i]=y at he;have o:=jG h3 he;have z:=qB o;have I:=qK o;refine bS mR ?_;refine bS (vJ he) ?_;refine bS (xP l he z.one) ?_;refine bS (d:=wU 3 1 y) (yC o (by decide) (by omega)) ?_;refine bS (xY rfl) ?_;refine bS (d:=.sl 31 1 [wU 3 1 y]) (qIS rfl (by decide)) ?_;refine bS (d:=.sl 31 1 (out++[wU 3 1 y])) (bT (by decide) (by omega)) ?_;refine bS (d:=dI ((i+1:Nat):Int)) (vC (vP (by omega))) ?_;exact zG rfl (ih x _ (by rw[p,dJ he]) x)
 replace c0:=dF c0;refine bS mR ?_;refine bS (d:=wU 94 2 x5) (yC t (by decide) (by omega)) ?_;refine bS mR ?_;refine bS (d:=wU 66 2 c) (yC r (by decide) (by omega)) ?_;refine bS mR ?_;refine bS (d:=wU 120 2 b) (yC q (by decide) (by omega)) ?_;have e:out=h.es.map (wU 3 1):=by rw[p,oC (by omega)]
 subst e;exact qO rfl rfl
end Go.Proofs.YtminhjecpnpaeaaGreatDoor
namespace Go.Proofs.YtminhjecpnpaeaaGreatDoor
open Go Go.Am Go.Proofs
attribute [local irreducible] Go.Am.wp Go.Am.TOp.eval
theorem g9{x5:Int}{s1:ByteArray}{p x g e o l c:D}(W:qC 1048576 (.sl 81 2 (.st [.str,.int .i64])) p)(V:qC 1048576 (.sl 77 2 qMH) x)(h3:qC 1048576 (.sl 50 1 (.sl 9 1 .str)) g)(U:qC 1048576 (.sl 39 6 qEM) e)(S:qC 1048576 (.sl 92 3 (.st [.int .i64,.int .i64,.int .i64])) o)(R:qC 1048576 aV l)(Q:qC 1048576 (.sl 64 8 qWv) c):Holds EE 9 [.agg [p,.leaf (.string s1),x,g,e,dI x5,o,l,c]] (qYS (.agg [p,.leaf (.string s1),x,g,e,dI x5,o,l,c])):=by
 refine u9 rfl (qX.step' ?_);have i0:=qB W;have G:=qB V;have M:=qB h3;have L:=qB U;have i6:=qB S;have i7:=qB R;have K:=qB Q;have b0:=qK W;have b2:=qK V;have b3:=qK h3;have b4:=qK U;have b6:=qK S;have b7:=qK R;have b8:=qK Q;generalize w:qYS (.agg [p,.leaf (.string s1),x,g,e,dI x5,o,l,c])=j;have w:j=.agg [wU 81 2 p,.leaf (.string s1),.sl 77 2 (x.es.map qJp),.sl 50 1 (g.es.map (wU 9 1)),.sl 39 6 (e.es.map qKX),dI x5,wU 92 3 o,wU 3 1 l,.sl 64 8 (c.es.map qMq)]:=w.symm;have r4:qX EE (Holds EE) qGh 4 [.sl 64 8 [],dI ((0:Nat):Int),wU 81 2 p,.leaf (.string s1),.sl 77 2 (x.es.map qJp),.sl 50 1 (g.es.map (wU 9 1)),.sl 39 6 (e.es.map qKX),dI x5,wU 92 3 o,wU 3 1 l,c] j:=by
  refine xK (P:=λ(i:Nat)=>∀out:List D,out=(c.es.take i).map qMq->i<=c.es.length->qX EE (Holds EE) qGh 4 [.sl 64 8 out,dI ((i:Nat):Int),wU 81 2 p,.leaf (.string s1),.sl 77 2 (x.es.map qJp),.sl 50 1 (g.es.map (wU 9 1)),.sl 39 6 (e.es.map qKX),dI x5,wU 92 3 o,wU 3 1 l,c] j) c.es.length (λi ih=>?_) 0 [] (by simp) (Nat.zero_le _);intro out k O;refine qX.step' ?_;have u:out.length<=c.es.length:=by rw[k];exact dK
  refine bS (qM K) ?_;refine bS vY ?_;refine iC (λc0=>?_) λc0=>?_
  ·replace c0:=yB c0;have h:i<c.es.length:=by omega
   have he:c.es[i]? = some c.es[i]:=List.getElem?_eq_getElem h;generalize c.es[i]=y at he;obtain⟨_,rfl,_,_,rfl,⟨r,rfl⟩,q,_,rfl,t,_,_,rfl,⟨z,rfl⟩,y3,_,rfl,F,_,_,rfl,⟨C,rfl⟩,A,_,rfl,k5,y6,_,rfl,k6,Z,_,rfl,k7,rfl⟩:=jG Q he;refine bS (vJ he) ?_;refine bS (jP K he rfl) ?_;refine cS (zBV t F k5 k6 k7) ?_;refine bS (zH rfl) ?_;refine bS (d:=.sl 64 8 [qMq (.agg [dI r,q,dI z,y3,dI C,A,y6,Z])]) (qIS rfl (by decide)) ?_;refine bS (d:=.sl 64 8 (out++[qMq (.agg [dI r,q,dI z,y3,dI C,A,y6,Z])])) (bT (by decide) (by omega)) ?_;refine bS (d:=dI ((i+1:Nat):Int)) (vC (vP (by omega))) ?_;exact zG rfl (ih h _ (by rw[k,dJ he]) h)
  replace c0:=dF c0;have b:out=c.es.map qMq:=by rw[k,oC (by omega)]
  subst b;exact qO rfl w.symm
 have r3:qX EE (Holds EE) qGh 3 [.sl 39 6 [],dI ((0:Nat):Int),wU 81 2 p,.leaf (.string s1),.sl 77 2 (x.es.map qJp),.sl 50 1 (g.es.map (wU 9 1)),e,dI x5,o,l,c] j:=by
  refine xK (P:=λ(i:Nat)=>∀out:List D,out=(e.es.take i).map qKX->i<=e.es.length->qX EE (Holds EE) qGh 3 [.sl 39 6 out,dI ((i:Nat):Int),wU 81 2 p,.leaf (.string s1),.sl 77 2 (x.es.map qJp),.sl 50 1 (g.es.map (wU 9 1)),e,dI x5,o,l,c] j) e.es.length (λi ih=>?_) 0 [] (by simp) (Nat.zero_le _);intro out k O;refine qX.step' ?_;have u:out.length<=e.es.length:=by rw[k];exact dK
  refine bS (qM L) ?_;refine bS vY ?_;refine iC (λc0=>?_) λc0=>?_
  ·replace c0:=yB c0;have h:i<e.es.length:=by omega
   have he:e.es[i]? = some e.es[i]:=List.getElem?_eq_getElem h;generalize e.es[i]=y at he;obtain⟨_,rfl,r,_,rfl,I,q,_,rfl,t,z,_,rfl,H,y3,_,rfl,F,_,_,rfl,⟨C,rfl⟩,_,_,rfl,⟨A,rfl⟩,rfl⟩:=jG U he;have j0:=qB I;have J:=qB t;have j2:=qB H;have j3:=qB F;have c_0:=qK I;have X:=qK t;have c_2:=qK H;have c_3:=qK F;refine bS (vJ he) ?_;refine bS (jP L he rfl) ?_;refine bS (zH rfl) ?_;refine bS mR ?_;refine bS (qA (off:=0) rfl j0.one) ?_;refine bS (d:=wU 3 1 r) (yC I (by decide) (by omega)) ?_;refine bS mR ?_;refine bS (qA (off:=1) rfl J.one) ?_;refine bS (d:=wU 3 1 q) (yC t (by decide) (by omega)) ?_;refine bS mR ?_;refine bS (qA (off:=2) rfl j2.one) ?_;refine bS (d:=wU 58 2 z) (yC H (by decide) (by omega)) ?_;refine bS mR ?_;refine bS (qA (off:=3) rfl j3.one) ?_;refine bS (d:=wU 58 2 y3) (yC F (by decide) (by omega)) ?_;refine bS (qA (off:=4) rfl rfl) ?_;refine bS (qA (off:=5) rfl rfl) ?_;refine bS (zH rfl) ?_;refine bS (d:=.sl 39 6 [.agg [wU 3 1 r,wU 3 1 q,wU 58 2 z,wU 58 2 y3,dB C,dB A]]) (qIS rfl (by decide)) ?_;refine bS (d:=.sl 39 6 (out++[.agg [wU 3 1 r,wU 3 1 q,wU 58 2 z,wU 58 2 y3,dB C,dB A]])) (bT (by decide) (by omega)) ?_;refine bS (d:=dI ((i+1:Nat):Int)) (vC (vP (by omega))) ?_;exact zG rfl (ih h _ (by rw[k,dJ he];rfl) h)
  replace c0:=dF c0;have b:out=e.es.map qKX:=by rw[k,oC (by omega)]
  subst b;refine bS mR ?_;refine bS (d:=wU 92 3 o) (yC S (by decide) (by omega)) ?_;refine bS mR ?_;refine bS (d:=wU 3 1 l) (yC R (by decide) (by omega)) ?_;refine bS mR ?_;exact zG rfl r4
 have r2:qX EE (Holds EE) qGh 2 [.sl 77 2 (x.es.map qJp),.sl 50 1 [],dI ((0:Nat):Int),wU 81 2 p,.leaf (.string s1),x,g,e,dI x5,o,l,c] j:=by
  refine xK (P:=λ(i:Nat)=>∀out:List D,out=(g.es.take i).map (wU 9 1)->i<=g.es.length->qX EE (Holds EE) qGh 2 [.sl 77 2 (x.es.map qJp),.sl 50 1 out,dI ((i:Nat):Int),wU 81 2 p,.leaf (.string s1),x,g,e,dI x5,o,l,c] j) g.es.length (λi ih=>?_) 0 [] (by simp) (Nat.zero_le _);intro out k O;refine qX.step' ?_;have u:out.length<=g.es.length:=by rw[k];exact dK
  refine bS (qM M) ?_;refine bS vY ?_;refine iC (λc0=>?_) λc0=>?_
  ·replace c0:=yB c0;have h:i<g.es.length:=by omega
   have he:g.es[i]? = some g.es[i]:=List.getElem?_eq_getElem h;generalize g.es[i]=y at he;have N:=jG h3 he;have iy:=qB N;have bY:=qK N;refine bS mR ?_;refine bS (vJ he) ?_;refine bS (xP M he iy.one) ?_;refine bS (d:=wU 9 1 y) (yC N (by decide) (by omega)) ?_;refine bS (xY rfl) ?_;refine bS (d:=.sl 50 1 [wU 9 1 y]) (qIS rfl (by decide)) ?_;refine bS (d:=.sl 50 1 (out++[wU 9 1 y])) (bT (by decide) (by omega)) ?_;refine bS (d:=dI ((i+1:Nat):Int)) (vC (vP (by omega))) ?_;exact zG rfl (ih h _ (by rw[k,dJ he]) h)
  replace c0:=dF c0;have b:out=g.es.map (wU 9 1):=by rw[k,oC (by omega)]
  subst b;refine bS mR ?_;exact zG rfl r3
 refine bS (zH rfl) ?_;refine bS mR ?_;refine bS (qA (off:=0) rfl i0.one) ?_;refine bS (d:=wU 81 2 p) (yC W (by decide) (by omega)) ?_;refine bS (zH rfl) ?_;refine bS (qA (off:=0) rfl i0.one) ?_;refine bS (qA (off:=1) rfl rfl) ?_;refine bS (qA (off:=2) rfl G.one) ?_;refine bS (qA (off:=3) rfl M.one) ?_;refine bS (qA (off:=4) rfl L.one) ?_;refine bS (qA (off:=5) rfl rfl) ?_;refine bS (qA (off:=6) rfl i6.one) ?_;refine bS (qA (off:=7) rfl i7.one) ?_;refine bS (qA (off:=8) rfl K.one) ?_;refine bS mR ?_;refine zG rfl (xK (P:=λ(i:Nat)=>∀out:List D,out=(x.es.take i).map qJp->i<=x.es.length->qX EE (Holds EE) qGh 1 [.sl 77 2 out,dI ((i:Nat):Int),wU 81 2 p,.leaf (.string s1),x,g,e,dI x5,o,l,c] j) x.es.length (λi ih=>?_) 0 [] (by simp) (Nat.zero_le _));intro out k O;refine qX.step' ?_;have u:out.length<=x.es.length:=by rw[k];exact dK
 refine bS (qM G) ?_;refine bS vY ?_;refine iC (λc0=>?_) λc0=>?_
 ·replace c0:=yB c0;have h:i<x.es.length:=by omega
  have he:x.es[i]? = some x.es[i]:=List.getElem?_eq_getElem h;generalize x.es[i]=y at he;obtain⟨_,rfl,_,_,rfl,⟨r,rfl,_⟩,q,_,rfl,t,rfl⟩:=jG V he;have J:=qB t;have X:=qK t;refine bS (vJ he) ?_;refine bS (d:=.leaf (.string r)) (nX (off:=0) G he rfl rfl (by decide)) ?_;refine bS mR ?_;refine bS (vJ he) ?_;refine bS (d:=q) (nX (off:=1) G he rfl J.one (by decide)) ?_;refine bS (d:=wU 3 1 q) (yC t (by decide) (by omega)) ?_;refine bS (zH rfl) ?_;refine bS (d:=.sl 77 2 [.agg [.leaf (.string r),wU 3 1 q]]) (qIS rfl (by decide)) ?_;refine bS (d:=.sl 77 2 (out++[.agg [.leaf (.string r),wU 3 1 q]])) (bT (by decide) (by omega)) ?_;refine bS (d:=dI ((i+1:Nat):Int)) (vC (vP (by omega))) ?_;exact zG rfl (ih h _ (by rw[k,dJ he];rfl) h)
 replace c0:=dF c0;have b:out=x.es.map qJp:=by rw[k,oC (by omega)]
 subst b;refine bS mR ?_;exact zG rfl r2
end Go.Proofs.YtminhjecpnpaeaaGreatDoor
