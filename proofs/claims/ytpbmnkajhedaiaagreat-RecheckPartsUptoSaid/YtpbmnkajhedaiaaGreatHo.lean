/- The states of all words, by the program. Conditions: none. -/
import Derived.Test.YtpbmnkajhedaiaaGreatHw
set_option linter.all false
namespace Go.Proofs.YtpbmnkajhedaiaaGreat
open Go Go.Am Go.Proofs Go.Am.Tt
attribute [local irreducible] Go.Am.wp Go.Am.TOp.eval
theorem zC9{c0 c1 A z u p o j e l X:D}{cs:List Tr.Dc}(hN:qM Ht.n13 (.agg [c0,c1,A,z,u,p,o,j,e]))(o0:c0.one=true)(o1:c1.one=true)(o2:A.one=true)(o3:z.one=true)(o4:u.one=true)(o5:p.one=true)(o6:o.one=true)(o7:j.one=true)(o8:e.one=true)(hl:qM Ht.n23 l)(hX:qQJ X cs)(hc:∀c∈cs,tZ c)(h2:cs.length<=2)(hs:∀w∈cs.flatMap (Tr.wP j0 7),w.2.size<=1048576):Holds EE 10 [.agg [c0,c1,A,z,u,p,o,j,e],X,l] (zF 73 4 ((cs.flatMap (Tr.wP j0 7)).map (qDt [c0,c1,A,z,u,p,o,j,e] l))):=by
 have U:qC BN qMt l:=zA (B:=300000000) rfl hl;have O:=qA U;have hX1:=hX.1;have i_X:=hX1;have N:=zGx hX hc h2;have hlen:(cs.flatMap (Tr.wP j0 7)).length<=15059072:=by
  have:∀(cs:List Tr.Dc),(∀c∈cs,tZ c)->(cs.flatMap (Tr.wP j0 7)).length<=cs.length*7529536:=by
   intro cs;induction cs with
   |nil=>intro _;exact Nat.zero_le _
   |cons c r C=>intro h;rw[List.flatMap_cons,List.length_append,List.length_cons,Nat.succ_mul];have:=C λx hx=>h x (mC _ hx);have:=qHR (h c List.mem_cons_self);omega
  have:=this cs hc;omega
 generalize cs.flatMap (Tr.wP j0 7)=ws at *;obtain⟨W,hW⟩:∃W,W=zF 83 3 (ws.map qDn):=⟨_,rfl⟩;have Q:xU 83 3 W:=by rw[hW];exact qGy (by rw[List.length_map];omega)
 have V:W.es=ws.map qDn:=by rw[hW,xX]
 have hWl:W.es.length=ws.length:=by rw[V,List.length_map]
 rw[←hW]at N;have o_l:=O.one;have F:∀i:Nat,i<=ws.length->∀E:List (ByteArray×(Int×Int)),qE EE (Holds EE) qJA 1 [zF 73 4 ((ws.take i).map (qDt [c0,c1,A,z,u,p,o,j,e] l)),W,dI ((W.es.length:Nat):Int),dI ((i:Nat):Int),c0,c1,A,z,u,p,o,j,e,l,qA0 [c0,c1,A,z,u,p,o,j,e] E] (zF 73 4 (ws.map (qDt [c0,c1,A,z,u,p,o,j,e] l))):=by
  refine vD (P:=λi:Nat=>i<=ws.length->∀E:List (ByteArray×(Int×Int)),qE EE (Holds EE) qJA 1 [zF 73 4 ((ws.take i).map (qDt [c0,c1,A,z,u,p,o,j,e] l)),W,dI ((W.es.length:Nat):Int),dI ((i:Nat):Int),c0,c1,A,z,u,p,o,j,e,l,qA0 [c0,c1,A,z,u,p,o,j,e] E] (zF 73 4 (ws.map (qDt [c0,c1,A,z,u,p,o,j,e] l)))) ws.length (λi C=>?_);intro hi E;refine qE.step' ?_;refine bS qP ?_;refine iC (λq=>?_) λq=>?_
  ·have L:i<ws.length:=by have:=xN q;omega
   obtain⟨w,M⟩:∃w,ws[i]? = some w:=⟨_,List.getElem?_eq_getElem L⟩;have K:=hs w (List.mem_of_getElem? M);have G:W.es[i]? = some (qDn w):=by rw[V,List.getElem?_map,M];rfl
   have htk:(ws.take (i+1)).map (qDt [c0,c1,A,z,u,p,o,j,e] l)=(ws.take i).map (qDt [c0,c1,A,z,u,p,o,j,e] l)++[qDt [c0,c1,A,z,u,p,o,j,e] l w]:=by rw[List.take_add_one,M,List.map_append];rfl
   have C:=C L L;rw[htk]at C;have S:((ws.take i).map (qDt [c0,c1,A,z,u,p,o,j,e] l)).length+1<=100000000:=by rw[List.length_map,List.length_take];omega
   have kb:=zDi (w:=w) U;have H:=(qKq (w:=w) hN hl K).2;obtain⟨a2,b2,k2,p2,e2,R⟩:=qG7 (w:=w) hN hl K;obtain⟨I,kN⟩:=qO8 (s:=w.2) rfl hN K;have est:qDt [c0,c1,A,z,u,p,o,j,e] l w=bif bV l w then zAo [c0,c1,A,z,u,p,o,j,e] l w else .agg [dI w.1.1,dI w.1.2,dI (kV [c0,c1,A,z,u,p,o,j,e] w.2),pV [c0,c1,A,z,u,p,o,j,e] w.2]:=rfl;rw[est]at C;rw[e2]at H C;generalize bV l w=Z at *;obtain⟨⟨a,b⟩,s⟩:=w;have G:W.es[i]? = some (.agg [dI a,dI b,.leaf (.string s)]):=G;have kb:Holds EE 50 [l,.clo (.func 51) [] [.ptr [dI a,dI b,.leaf (.string s)] 0]] (dB Z):=kb;have H:Holds EE 52 [.agg [c0,c1,A,z,u,p,o,j,e],.agg [dI a,dI b],.leaf (.string s),l] (.agg [dI a2,dI b2,dI k2,p2]):=H;have C:∀E:List (ByteArray×(Int×Int)),qE EE (Holds EE) qJA 1 [zF 73 4 ((ws.take i).map (qDt [c0,c1,A,z,u,p,o,j,e] l)++[bif Z then .agg [dI a2,dI b2,dI k2,p2]else .agg [dI a,dI b,dI (kV [c0,c1,A,z,u,p,o,j,e] s),pV [c0,c1,A,z,u,p,o,j,e] s]]),W,dI ((W.es.length:Nat):Int),dI ((i+1:Nat):Int),c0,c1,A,z,u,p,o,j,e,l,qA0 [c0,c1,A,z,u,p,o,j,e] E] (zF 73 4 (ws.map (qDt [c0,c1,A,z,u,p,o,j,e] l))):=C;have I:qC BN qBr (pV [c0,c1,A,z,u,p,o,j,e] s):=I;have kN:∀a b:Int,Holds EE 52 [.agg [c0,c1,A,z,u,p,o,j,e],.agg [dI a,dI b],.leaf (.string s),.nil] (.agg [dI a,dI b,dI (kV [c0,c1,A,z,u,p,o,j,e] s),pV [c0,c1,A,z,u,p,o,j,e] s]):=kN;have mh:=λ(k:Nat) (h:(E.map uW).findIdx? (λt=>s==t)=some k)=>qOV (g:=[c0,c1,A,z,u,p,o,j,e]) h;have mm:=λ(h:(E.map uW).findIdx? (λt=>s==t)=none)=>qLC (g:=[c0,c1,A,z,u,p,o,j,e]) h;have mst:=λ(h:(E.map uW).findIdx? (λt=>s==t)=none)=>qLB (g:=[c0,c1,A,z,u,p,o,j,e]) (a:=a) (b:=b) h;have ap1:=qMq (a:=a2) (b:=b2) (k:=k2) R S;have qVb:=qMq (a:=a) (b:=b) (k:=kV [c0,c1,A,z,u,p,o,j,e] s) I S;have ihA:=λms2=>C ms2;have i_p2:=qA R;have J:=qA I;generalize kV [c0,c1,A,z,u,p,o,j,e] s=kn at *;generalize pV [c0,c1,A,z,u,p,o,j,e] s=pN at *;have d2:=G;refine bS (qV (s:=((i:Nat):Int)) (by omega) G) ?_;refine bS (zU (s:=((i:Nat):Int)) Q (by omega) G rfl) ?_;refine bS (qD rfl) ?_;refine bS (qD rfl) ?_;refine bS tN ?_;refine cS kb ?_;refine iC (λr=>?_) λr=>?_
   ·rw[show Z=true from r]at C;refine bS qO5 ?_;refine bS (rW (cs:=[dI (a),dI (b),.leaf (.string s)]) (off:=2) rfl rfl) ?_;refine cS H ?_;refine bS (qD rfl) ?_;refine bS (qD rfl) ?_;refine bS qWS ?_;refine bS ap1 ?_;refine bS (d:=dI ((i+1:Nat):Int)) (qY (qN (by omega))) ?_;exact qS rfl (C E)
   rw[show Z=false from r]at C;cases hf:(E.map uW).findIdx? (λt=>s==t)with
   |some k=>obtain⟨x,y,hh⟩:=mh k hf;refine bS (rW (cs:=[dI (a),dI (b),.leaf (.string s)]) (off:=2) rfl rfl) ?_;refine bS hh ?_;refine bS (vV rfl) ?_;refine bS (vV rfl) ?_;refine bS (qD rfl) ?_;refine bS jU ?_;refine qL (t:=false) rfl ?_;refine jH ?_;refine bS qO5 ?_;refine bS (qD rfl) ?_;refine bS (qB (off:=0) rfl rfl) ?_;refine bS (qB (off:=1) rfl rfl) ?_;refine bS (qB (off:=2) rfl rfl) ?_;refine bS (qB (off:=3) rfl J.one) ?_;refine bS (qD rfl) ?_;refine bS (qB (off:=0) rfl rfl) ?_;refine bS (qB (off:=1) rfl rfl) ?_;refine bS (qD rfl) ?_;refine bS qWS ?_;refine bS qVb ?_;refine bS (d:=dI ((i+1:Nat):Int)) (qY (qN (by omega))) ?_;exact qS rfl (C E)
   |none=>refine bS (rW (cs:=[dI (a),dI (b),.leaf (.string s)]) (off:=2) rfl rfl) ?_;refine bS (mm hf) ?_;refine bS (vV rfl) ?_;refine bS (vV rfl) ?_;refine bS (qD rfl) ?_;refine bS jU ?_;refine qL (t:=true) rfl ?_;refine xJ ?_;refine bS qO5 ?_;refine bS (rW (cs:=[dI (a),dI (b),.leaf (.string s)]) (off:=2) rfl rfl) ?_;refine cS (kN a b) ?_;refine bS (qD rfl) ?_;refine bS (rW (cs:=[dI (a),dI (b),.leaf (.string s)]) (off:=2) rfl rfl) ?_;refine bS (mst hf) ?_;refine bS qO5 ?_;refine bS (qD rfl) ?_;refine bS (qB (off:=0) rfl rfl) ?_;refine bS (qB (off:=1) rfl rfl) ?_;refine bS (qB (off:=2) rfl rfl) ?_;refine bS (qB (off:=3) rfl J.one) ?_;refine bS (qD rfl) ?_;refine bS (qB (off:=0) rfl rfl) ?_;refine bS (qB (off:=1) rfl rfl) ?_;refine bS (qD rfl) ?_;refine bS qWS ?_;refine bS qVb ?_;refine bS (d:=dI ((i+1:Nat):Int)) (qY (qN (by omega))) ?_;exact qS rfl (C _)
  have:=wJ q;have ht:ws.take i=ws:=List.take_of_length_le (by omega);rw[ht];exact qF rfl rfl
 have F:=F 0 (Nat.zero_le _) [];refine zEt rfl (qE.step' ?_);refine bS (qD rfl) ?_;refine bS qFz ?_;refine bS (qD rfl) ?_;refine bS (qB (off:=0) rfl o0) ?_;refine bS (qB (off:=1) rfl o1) ?_;refine bS (qB (off:=2) rfl o2) ?_;refine bS (qB (off:=3) rfl o3) ?_;refine bS (qB (off:=4) rfl o4) ?_;refine bS (qB (off:=5) rfl o5) ?_;refine bS (qB (off:=6) rfl o6) ?_;refine bS (qB (off:=7) rfl o7) ?_;refine bS (qB (off:=8) rfl o8) ?_;refine bS (xI O.one) ?_;refine cS N ?_;refine bS (qI Q) ?_;exact qS rfl F
end Go.Proofs.YtpbmnkajhedaiaaGreat
namespace Go.Proofs.YtpbmnkajhedaiaaGreat
open Go Go.Am Go.Proofs Go.Am.Tt
theorem qZl:fU EE.prog 4 121=some [.int .i64,.int .i64,.int .i64]:=by kernel_rfl
theorem qZw:lQ EE.prog 121=true:=by kernel_rfl
theorem zAi:EE.prog.eqGuardType EE.prog.depth 121=false:=by kernel_rfl
theorem zGb{x y:Operand}{a b c:Int}:TOp.eval EE (.bin .neq 121 x y) [.agg [dI a,dI b,dI c],.agg [dI a,dI b,dI c]]=some (dB false):=by
 rw[sE .neq (.inl rfl) qZl qZw (by decide:4<=10000) zAi rfl (x:=x) (y:=y) (jS wT (jS wT (jS wT mT))) (jS wT (jS wT (jS wT mT)))];have h:tP [dI a,dI b,dI c] [dI a,dI b,dI c]=true:=by simp[qEy,qHg,qHh,qJw]
 grind
theorem zDj{x y:Operand}{a b:Int}:TOp.eval EE (.bin .eql 50 x y) [.agg [dI a,dI b],.agg [dI a,dI b]]=some (dB true):=by rw[zE3];exact congrArg (λt=>some (dB t)) (tD rfl)
attribute [local irreducible] Go.Am.wp Go.Am.TOp.eval
theorem zCy{p:D}(j:qC BN qBr p):Holds EE 107 [p,p] (dB true):=by
 have b:=qA j;have o:p.es.length<=300000000:=qO j;have g:qE EE (Holds EE) qH0 1 [p,p,dI ((p.es.length:Nat):Int),dI ((0:Nat):Int)] (dB true):=by
  refine vD (P:=λi:Nat=>qE EE (Holds EE) qH0 1 [p,p,dI ((p.es.length:Nat):Int),dI ((i:Nat):Int)] (dB true)) p.es.length (λi l=>qE.step' ?_) 0;refine bS qP ?_;refine iC (λc=>?_) λc=>?_
  ·have k:=xN c;have e:=List.getElem?_eq_getElem k;obtain⟨_,hs,_,_,rfl,⟨x,rfl⟩,_,_,rfl,⟨y,rfl⟩,_,_,rfl,⟨z,rfl⟩,rfl⟩:=zO j e;rw[hs]at e;refine bS (qV (s:=((i:Nat):Int)) (by omega) e) ?_;refine bS (zU (s:=((i:Nat):Int)) b (by omega) e rfl) ?_;refine bS (qV (s:=((i:Nat):Int)) (by omega) e) ?_;refine bS (zU (s:=((i:Nat):Int)) b (by omega) e rfl) ?_;refine bS zGb ?_;refine qL (t:=false) rfl ?_;refine jH ?_;refine bS (d:=dI ((i+1:Nat):Int)) (qY (qN (by omega))) ?_;exact qS rfl (l k)
  exact qF rfl rfl
 refine zCc rfl (qE.step' ?_);refine bS (qI b) ?_;refine bS (qI b) ?_;refine bS jW ?_;refine qL (t:=false) (congrArg (λq=>dB q) (fD (λh=>h rfl))) ?_;refine jH ?_;refine bS (qI b) ?_;exact qS rfl g
theorem zFN{p:D}(x:qC BN qBr p):Holds EE 68 [.agg [p],.agg [p]] (dB true):=by have h:=qA x;refine zFA rfl (qE.step' ?_);refine bS (qD rfl) ?_;refine bS (qD rfl) ?_;refine bS (qB (off:=0) rfl h.one) ?_;refine bS (qB (off:=0) rfl h.one) ?_;refine cS (zCy x) ?_;exact qF rfl rfl
theorem zFO{a b k:Int}{p:D}(h:qC BN qBr p):Holds EE 33 [.agg [dI a,dI b,dI k,p],.agg [dI a,dI b,dI k,p]] (dB true):=by have x:=qA h;refine zFF rfl (qE.step' ?_);refine bS (qD rfl) ?_;refine bS (qD rfl) ?_;refine bS (yB (off:=0) (size:=2) rfl) ?_;refine bS (yB (off:=0) (size:=2) rfl) ?_;refine bS zDj ?_;refine qL (t:=true) rfl ?_;refine xJ ?_;refine bS (qB (off:=2) rfl rfl) ?_;refine bS (qB (off:=2) rfl rfl) ?_;refine bS jO ?_;refine qL (t:=true) (congrArg (λq=>dB q) (tD rfl)) ?_;refine xJ ?_;refine bS (yB (off:=3) (size:=1) rfl) ?_;refine bS (yB (off:=3) (size:=1) rfl) ?_;refine cS (zFN h) ?_;exact qF rfl rfl
abbrev qJq(x:D):Prop:=∃a b k:Int,∃p,x=.agg [dI a,dI b,dI k,p]/\qC BN qBr p
theorem zFP{A_ B_:D}(y:xU 73 4 A_)(g:xU 73 4 B_)(A:A_.es.length<=300000000)(he:A_.es=B_.es)(z:∀x∈A_.es,qJq x):Holds EE 32 [A_,B_,.clo (.func 33) [] []] (dB true):=by
 have j:qE EE (Holds EE) qMU 1 [B_,.clo (.func 33) [] [],A_,dI ((A_.es.length:Nat):Int),dI ((0:Nat):Int)] (dB true):=by
  refine vD (P:=λi:Nat=>qE EE (Holds EE) qMU 1 [B_,.clo (.func 33) [] [],A_,dI ((A_.es.length:Nat):Int),dI ((i:Nat):Int)] (dB true)) A_.es.length (λi u=>qE.step' ?_) 0;refine bS qP ?_;refine iC (λc=>?_) λc=>?_
  ·have r:=xN c;have e:=List.getElem?_eq_getElem r;obtain⟨a,b,k,p,hs,o⟩:=z _ (List.mem_of_getElem? e);have w:=qA o;rw[hs]at e;have l:B_.es[i]? = some (.agg [dI a,dI b,dI k,p]):=by rw[←he];exact e
   refine bS (qV (s:=((i:Nat):Int)) (by omega) e) ?_;refine bS (zU (s:=((i:Nat):Int)) y (by omega) e rfl) ?_;refine bS (qD rfl) ?_;refine bS (qV (s:=((i:Nat):Int)) (by omega) l) ?_;refine bS (zU (s:=((i:Nat):Int)) g (by omega) l rfl) ?_;refine bS (qD rfl) ?_;refine cS (zFO o) ?_;refine bS jU ?_;refine qL (t:=false) rfl ?_;refine jH ?_;refine bS (d:=dI ((i+1:Nat):Int)) (qY (qN (by omega))) ?_;exact qS rfl (u r)
  exact qF rfl rfl
 refine u32 rfl (qE.step' ?_);refine bS (qI y) ?_;refine bS (qI g) ?_;refine bS jW ?_;refine qL (t:=false) (congrArg (λq=>dB q) (fD (by rw[he];exact λh=>h rfl))) ?_;refine jH ?_;refine bS (qI y) ?_;exact qS rfl j
theorem zFQ{A_ B_:D}(y:xU 73 4 A_)(h:xU 73 4 B_)(b:A_.es.length<=300000000)(he:A_.es=B_.es)(c:∀x∈A_.es,qJq x):Holds EE 14 [A_,B_] (dB true):=by refine zFI rfl (qE.step' ?_);refine cS (zFP y h b he c) ?_;exact qF rfl rfl
end Go.Proofs.YtpbmnkajhedaiaaGreat
namespace Go.Proofs.YtpbmnkajhedaiaaGreat
open Go Go.Am Go.Proofs Go.Am.Tr
abbrev qYe:Sh:=.sl 63 7 qHH
theorem qZs{t:TypeId}{x y:Operand}{p:Nat}(h:p+1<zI):TOp.eval EE (.bin .sub t x y) [dI ((p+1:Nat):Int),dI 1]=some (dI ((p:Nat):Int)):=by have e:TOp.eval EE (.bin .sub t x y) [dI ((p+1:Nat):Int),dI 1]=some (dI (IntKind.i64.wrap (((p+1:Nat):Int)-1))):=rfl;rw[e,show(((p+1:Nat):Int)-1)=((p:Nat):Int) by omega,qHO (by omega)]
def zE2:D->Tr
 |.agg [.leaf (.string s),.leaf (.int .i64 a),.leaf (.int .i64 b),.leaf (.int .i64 c)]=>⟨s,a,b,c⟩
 |_=>zT
def wW:D->Dc
 |.agg [.leaf (.int .i64 i),_,_,_,_,T,M]=>⟨i,T.es.map zE2,M.es.map qYc⟩
 |_=>⟨0,[],[]⟩
theorem qIu{α:Type}{f:D->α}{g:α->D}:∀{l:List D},(∀x∈l,g (f x)=x)->l=(l.map f).map g
 | [],_=>rfl
 |x::l,h=>by rw[List.map_cons,List.map_cons,h x List.mem_cons_self,←qIu λy b=>h y (mC _ b)]
theorem sX{B el sz:Nat}{e:Sh}{d:D}(h:qC B (.sl el sz e) d):∀x∈d.es,qC B e x:=λx y=>by
 obtain⟨i,hi⟩:=List.getElem?_of_mem y
 exact zO h hi
theorem qCR{d:D}(h:qC 1048576 qHH d):∃i nm ln dy sp T M,d=.agg [dI i,nm,dI ln,dI dy,sp,T,M]/\nm.one=true/\xU 3 1 sp/\qC 1048576 qMs T/\qC 1048576 zBg M/\T.es=(wW d).ts.map qMx/\M.es=(wW d).ns.map mO/\(wW d).id=i:=by
 obtain⟨_,rfl,_,_,rfl,⟨i,rfl⟩,nm,_,rfl,j,_,_,rfl,⟨ln,rfl⟩,_,_,rfl,⟨dy,rfl⟩,sp,_,rfl,mJ,T,_,rfl,k,M,_,rfl,l,rfl⟩:=h;refine⟨i,nm,ln,dy,sp,T,M,rfl,?_,qA mJ,k,l,?_,?_,rfl⟩
 ·obtain⟨s,rfl,_⟩:=j;rfl
 ·refine qIu (f:=zE2) (g:=qMx) λx y=>?_;obtain⟨_,rfl,_,_,rfl,⟨s,rfl,_⟩,_,_,rfl,⟨a,rfl⟩,_,_,rfl,⟨b,rfl⟩,_,_,rfl,⟨c,rfl⟩,rfl⟩:=sX k x y;rfl
 refine qIu (f:=qYc) (g:=mO) λx y=>?_;obtain⟨_,rfl,_,_,rfl,⟨a,rfl⟩,_,_,rfl,⟨b,rfl⟩,_,_,rfl,⟨c,rfl⟩,_,_,rfl,⟨d,rfl⟩,_,_,rfl,⟨e,rfl⟩,_,_,rfl,⟨f,rfl⟩,_,_,rfl,⟨s,rfl,_⟩,rfl⟩:=sX l x y;rfl
attribute [local irreducible] Go.Am.wp Go.Am.TOp.eval
theorem zDc{d:D}(h:qC 1048576 qHH d):∃b:Bool,Holds EE 18 [d] (dB b)/\(b=true->tZ (wW d)):=by obtain⟨i,nm,ln,dy,sp,T,M,rfl,y,x,c,e,g,j,_⟩:=qCR h;exact zGI h y x c g (qA e) j
theorem g7{X l:D}{gs:List D}{w:Bool}{e17:Int}(E:qC 1048576 qYe X)(k:xU 97 4 l)(b_l:l.es.length<=1048576)(c:gs.length=9)(u:Holds EE 12 [.agg gs] (dB w))(A:Holds EE 17 [l] (dI e17)):∃b:Bool,Holds EE 7 [.agg gs,X,l] (dB b)/\(b=true->w=true/\X.es.length<=2/\∀d∈X.es,tZ (wW d)):=by
 have x:=qA E;have b_X:=qO E;have loop:∃b:Bool,qE EE (Holds EE) qVp 1 [X,dI ((0:Nat):Int)] (dB b)/\(b=true->∀(i:Nat) (d:D),0<=i->X.es[i]? = some d->tZ (wW d)):=by
  refine cG (P:=λj=>∃b:Bool,qE EE (Holds EE) qVp 1 [X,dI ((j:Nat):Int)] (dB b)/\(b=true->∀(i:Nat) (d:D),j<=i->X.es[i]? = some d->tZ (wW d))) X.es.length ?_ ?_
  ·refine⟨true,qE.step' ?_,λ_ i d hi h=>?_⟩
   ·show wp _ _ _ qVq _;refine bS (qI x) ?_;refine bS qP ?_;refine qL (t:=false) (congrArg (λq=>dB q) (fD (by omega))) ?_;refine jH ?_;exact qF rfl rfl
   grind
  ·intro j hj ⟨b,K,hih⟩;obtain⟨d,y⟩:=iA hj;have hd:=zO E y;obtain⟨C,g,f18⟩:=zDc hd;have fin:C=true->b=true->∀(i:Nat) (F:D),j<=i->X.es[i]? = some F->tZ (wW F):=λh1 z i F hi h=>by grind
   obtain⟨di,nm,ln,dy,sp,T,M,rfl,R,L,hT,hM,_,_,_⟩:=qCR hd;have Z:=qA hT;have i_M:=qA hM;have o:((j:Nat):Int)<((X.es.length:Nat):Int):=by omega
   cases r:C with
   |false=>refine⟨false,qE.step' ?_,λh=>by cases h⟩;refine bS (qI x) ?_;refine bS qP ?_;refine qL (t:=true) (congrArg (λq=>dB q) (tD o)) ?_;refine xJ ?_;refine bS (qV (s:=((j:Nat):Int)) (by omega) y) ?_;refine bS (zU (s:=((j:Nat):Int)) x (by omega) y rfl) ?_;refine cS g ?_;refine bS jU ?_;refine qL (t:=true) (congrArg (λq=>dB q) (by rw[r];rfl)) ?_;refine xJ ?_;exact qF rfl rfl
   | true=>
    have fin:=fin r;cases j with
    |zero=>refine⟨b,qE.step' ?_,fin⟩;refine bS (qI x) ?_;refine bS qP ?_;refine qL (t:=true) (congrArg (λq=>dB q) (tD o)) ?_;refine xJ ?_;refine bS (qV (s:=((0:Nat):Int)) (by omega) y) ?_;refine bS (zU (s:=((0:Nat):Int)) x (by omega) y rfl) ?_;refine cS g ?_;refine bS jU ?_;refine qL (t:=false) (congrArg (λq=>dB q) (by rw[r];rfl)) ?_;refine jH ?_;refine bS zW ?_;refine qL (t:=false) (congrArg (λq=>dB q) (fD (by omega))) ?_;refine jH ?_;refine bS (d:=dI ((0+1:Nat):Int)) (qY (n:=0) (by unfold zI;omega)) ?_;exact qS rfl K
    |succ p=>
     obtain⟨F,e⟩:=iA (show p<X.es.length by omega);obtain⟨ei,U,V,dy2,S,T2,M2,rfl,H,G,I,J,_,_,_⟩:=qCR (zO E e);have N:=qA I;have O:=qA J;by_cases B:di<=ei
     ·refine⟨false,qE.step' ?_,λh=>by cases h⟩;refine bS (qI x) ?_;refine bS qP ?_;refine qL (t:=true) (congrArg (λq=>dB q) (tD o)) ?_;refine xJ ?_;refine bS (qV (s:=((p+1:Nat):Int)) (by omega) y) ?_;refine bS (zU (s:=((p+1:Nat):Int)) x (by omega) y rfl) ?_;refine cS g ?_;refine bS jU ?_;refine qL (t:=false) (congrArg (λq=>dB q) (by rw[r];rfl)) ?_;refine jH ?_;refine bS zW ?_;refine qL (t:=true) (congrArg (λq=>dB q) (tD (by omega))) ?_;refine xJ ?_;refine bS (qV (s:=((p+1:Nat):Int)) (by omega) y) ?_;refine bS (jD (s:=((p+1:Nat):Int)) (off:=0) x (by omega) y rfl rfl (by decide)) ?_;refine bS (d:=dI ((p:Nat):Int)) (qZs (by unfold zI;omega)) ?_;refine bS (qV (s:=((p:Nat):Int)) (by omega) e) ?_;refine bS (jD (s:=((p:Nat):Int)) (off:=0) x (by omega) e rfl rfl (by decide)) ?_;refine bS kS ?_;refine qL (t:=true) (congrArg (λq=>dB q) (tD B)) ?_;refine xJ ?_;exact qF rfl rfl
     ·refine⟨b,qE.step' ?_,fin⟩;refine bS (qI x) ?_;refine bS qP ?_;refine qL (t:=true) (congrArg (λq=>dB q) (tD o)) ?_;refine xJ ?_;refine bS (qV (s:=((p+1:Nat):Int)) (by omega) y) ?_;refine bS (zU (s:=((p+1:Nat):Int)) x (by omega) y rfl) ?_;refine cS g ?_;refine bS jU ?_;refine qL (t:=false) (congrArg (λq=>dB q) (by rw[r];rfl)) ?_;refine jH ?_;refine bS zW ?_;refine qL (t:=true) (congrArg (λq=>dB q) (tD (by omega))) ?_;refine xJ ?_;refine bS (qV (s:=((p+1:Nat):Int)) (by omega) y) ?_;refine bS (jD (s:=((p+1:Nat):Int)) (off:=0) x (by omega) y rfl rfl (by decide)) ?_;refine bS (d:=dI ((p:Nat):Int)) (qZs (by unfold zI;omega)) ?_;refine bS (qV (s:=((p:Nat):Int)) (by omega) e) ?_;refine bS (jD (s:=((p:Nat):Int)) (off:=0) x (by omega) e rfl rfl (by decide)) ?_;refine bS kS ?_;refine qL (t:=false) (congrArg (λq=>dB q) (fD B)) ?_;refine jH ?_;refine bS (d:=dI ((p+1+1:Nat):Int)) (qY (qN (by omega))) ?_;exact qS rfl K
 obtain⟨b,W,fl⟩:=loop;by_cases z:(2:Int)<((X.es.length:Nat):Int)
 ·refine⟨false,u7 rfl (qE.step' ?_),λh=>by cases h⟩;refine bS (qD c) ?_;refine bS (qI x) ?_;refine bS zW ?_;refine qL (t:=true) (congrArg (λq=>dB q) (tD z)) ?_;refine xJ ?_;exact qF rfl rfl
 ·by_cases h8:((l.es.length:Nat):Int)>8
  ·refine⟨false,u7 rfl (qE.step' ?_),λh=>by cases h⟩;refine bS (qD c) ?_;refine bS (qI x) ?_;refine bS zW ?_;refine qL (t:=false) (congrArg (λq=>dB q) (fD z)) ?_;refine jH ?_;refine bS (qI k) ?_;refine bS zW ?_;refine qL (t:=true) (congrArg (λq=>dB q) (tD h8)) ?_;refine xJ ?_;exact qF rfl rfl
  ·cases r:w with
   |false=>refine⟨false,u7 rfl (qE.step' ?_),λh=>by cases h⟩;refine bS (qD c) ?_;refine bS (qI x) ?_;refine bS zW ?_;refine qL (t:=false) (congrArg (λq=>dB q) (fD z)) ?_;refine jH ?_;refine bS (qI k) ?_;refine bS zW ?_;refine qL (t:=false) (congrArg (λq=>dB q) (fD h8)) ?_;refine jH ?_;refine cS u ?_;refine bS jU ?_;refine qL (t:=true) (congrArg (λq=>dB q) (by rw[r];rfl)) ?_;refine xJ ?_;exact qF rfl rfl
   |true=>
    by_cases Q:e17=0
    ·refine⟨b,u7 rfl (qE.step' ?_),λh=>⟨rfl,by omega,λd hd=>by obtain⟨i,hi⟩:=List.getElem?_of_mem hd;exact fl h i d (Nat.zero_le _) hi⟩⟩;refine bS (qD c) ?_;refine bS (qI x) ?_;refine bS zW ?_;refine qL (t:=false) (congrArg (λq=>dB q) (fD z)) ?_;refine jH ?_;refine bS (qI k) ?_;refine bS zW ?_;refine qL (t:=false) (congrArg (λq=>dB q) (fD h8)) ?_;refine jH ?_;refine cS u ?_;refine bS jU ?_;refine qL (t:=false) (congrArg (λq=>dB q) (by rw[r];rfl)) ?_;refine jH ?_;refine cS A ?_;refine bS jW ?_;refine qL (t:=false) (congrArg (λq=>dB q) (fD (λh=>h Q))) ?_;refine jH ?_;exact qS rfl W
    ·refine⟨false,u7 rfl (qE.step' ?_),λh=>by cases h⟩;refine bS (qD c) ?_;refine bS (qI x) ?_;refine bS zW ?_;refine qL (t:=false) (congrArg (λq=>dB q) (fD z)) ?_;refine jH ?_;refine bS (qI k) ?_;refine bS zW ?_;refine qL (t:=false) (congrArg (λq=>dB q) (fD h8)) ?_;refine jH ?_;refine cS u ?_;refine bS jU ?_;refine qL (t:=false) (congrArg (λq=>dB q) (by rw[r];rfl)) ?_;refine jH ?_;refine cS A ?_;refine bS jW ?_;refine qL (t:=true) (congrArg (λq=>dB q) (tD Q)) ?_;refine xJ ?_;exact qF rfl rfl
end Go.Proofs.YtpbmnkajhedaiaaGreat
