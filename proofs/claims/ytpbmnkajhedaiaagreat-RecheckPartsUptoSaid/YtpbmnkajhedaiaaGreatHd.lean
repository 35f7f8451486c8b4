/- The notes below a note, and those of a tier, by the program. Conditions: none. -/
import Derived.Test.YtpbmnkajhedaiaaGreatHc
import Derived.Test.YtpbmnkajhedaiaaGreatDh
import Derived.Test.YtpbmnkajhedaiaaGreatXa
set_option linter.all false
namespace Go.Proofs.YtpbmnkajhedaiaaGreat
open Go Go.Am Go.Proofs Go.Am.Tr
abbrev zEd:Sh:=.st [.int .i64,.int .i64,.int .i64,.int .i64,.int .i64,.int .i64,.str]
theorem zGr{n:Nt}{B:Nat}(h:n.tx.size<=B):qC B zEd (mO n):=lH (qW vO (qW vO (qW vO (qW vO (qW vO (qW vO (qW (cH h) jY)))))))
theorem zCT{n:Nt}:TOp.eval EE (.lit 106 7) [mO n]=some (.sl 106 7 [mO n]):=rfl
theorem zD8{l:List Nt}{n:Nt}(h:l.length+1<=1000000):TOp.eval EE (.app 106 7 64) [zF 106 7 (l.map mO),.sl 106 7 [mO n]]=some (zF 106 7 ((l++[n]).map mO)):=by rw[List.map_append];exact eK (B:=n.tx.size+1) (e:=zEd) (rD (show 1<=_ by omega) λx y=>by rw[List.mem_singleton.1 y];exact zGr (by omega)) (by decide) (by rw[List.length_map];show _+1<=_;omega)
def qDo(n:Nt):D:=dI n.id
theorem zEb{l:List D}{x:Int}(h:l.length+1<=1000000):TOp.eval EE (.app 3 1 8) [zF 3 1 l,.sl 3 1 [dI x]]=some (zF 3 1 (l++[dI x])):=
 eK (B:=1) (e:=.int .i64) (rD (vE 1) λy b=>by rw[List.mem_singleton.1 b];exact vO) (by decide) (by show _+1<=_;omega)
theorem zD9{l:List D}{m:List Nt}(h:l.length+m.length<=100000000):TOp.eval EE (.app 3 1 8) [zF 3 1 l,zF 3 1 (m.map qDo)]=some (zF 3 1 (l++m.map qDo)):=by have:=eK (E:=EE) (B:=m.length) (el:=3) (sz:=1) (bytes:=8) (l:=l) (b:=zF 3 1 (m.map qDo)) (e:=.int .i64) (nN (by rw[List.length_map];exact vE _) λy x=>by obtain⟨n,_,rfl⟩:=List.mem_map.1 x;exact vO) (by decide) (by rw[xX,List.length_map];omega);rw[xX]at this;exact this
theorem qGy{el sz:Nat}{l:List D}(h:l.length<=100000000):xU el sz (zF el sz l):=by
 unfold zF;split
 ·exact .inl rfl
 exact .inr ⟨_,rfl,by unfold zI;omega⟩
theorem zBb(l:List Nt):(l.map mO).all PN=true:=by rw[List.all_eq_true];intro x h;obtain⟨p,_,rfl⟩:=List.mem_map.1 h;rfl
theorem qZA{l:List Nt}(c:l.length<=19):TOp.eval EE (.lib SN) [zF 106 7 (l.map mO)]=some (zF 106 7 ((j0 l).map mO)):=by
 rw[qIV];have h:=aW l;by_cases x:l=[]
 ·have e:j0 l=[]:=List.length_eq_zero_iff.1 (by rw[h,x];rfl);rw[e,x];rfl
 have e:j0 l≠[]:=λe=>x (List.length_eq_zero_iff.1 (by rw[←h,e];rfl));have b:l.map mO≠[]:=λe=>x (List.map_eq_nil_iff.1 e);have y:(j0 l).map mO≠[]:=λe'=>e (List.map_eq_nil_iff.1 e');have g:Nat.ble (l.map mO).length 19=true:=bL (by rw[List.length_map];exact c);have i:qQL mO qYc qLN (l.map mO)=(j0 l).map mO:=by unfold qQL j0;rw[qWd.back]
 unfold SN zF;rw[if_neg b,if_neg y];simp only[s6,Nat.beq_refl,zBb,g,Bool.and_self,cond_true,i]
attribute [local irreducible] Go.Am.wp Go.Am.TOp.eval
section
variable{di ln dy:Int}{nm sp T M:D}{ts:List Tr}{ns:List Nt}
theorem zGs{i t:Int}(h_nm:nm.one=true)(h_sp:sp.one=true)(B:xU 102 4 T)(hT:T.es=ts.map qMx)(u:xU 106 7 M)(hM:M.es=ns.map mO)(hn:ns.length<=19):Holds EE 79 [.agg [dI di,nm,dI ln,dI dy,sp,T,M],dI i,dI t] (zF 3 1 ((nR j0 ts ns i t).map qDo)):=by
 have hl:M.es.length=ns.length:=by rw[hM,List.length_map]
 have F:T.es.length=ts.length:=by rw[hT,List.length_map]
 have g:∀(K:D) (l:List Nt),xU 106 7 K->K.es=l.map mO->l.length<=19->qE EE (Holds EE) qJy 2 [.nil,K,dI ((K.es.length:Nat):Int),dI ((0:Nat):Int)] (zF 3 1 (l.map qDo)):=by
  intro K l o A hkl;have hKl:K.es.length=l.length:=by rw[A,List.length_map]
  refine vD (P:=λj:Nat=>j<=l.length->∀os:List D,os.length<=j->qE EE (Holds EE) qJy 2 [zF 3 1 os,K,dI ((K.es.length:Nat):Int),dI ((j:Nat):Int)] (zF 3 1 (os++(l.drop j).map qDo))) l.length (λj I=>?_) 0 (Nat.zero_le _) [] (Nat.zero_le _);intro hj os R;refine qE.step' ?_;refine bS qP ?_;refine iC (λc=>?_) λc=>?_
  ·have x:j<l.length:=by have:=xN c;omega
   obtain⟨n,q,y⟩:=eJ A x;have S:os++(l.drop j).map qDo=(os++[qDo n])++(l.drop (j+1)).map qDo:=by rw[kL q,List.append_assoc];rfl
   rw[S];have r:=I x x (os++[qDo n]) (by rw[List.length_append];show _+1<=_;omega);obtain⟨H,xt,G,O,N,L,J⟩:=n;have y:K.es[j]? = some (.agg [dI H,dI xt,dI G,dI O,dI N,dI L,.leaf (.string J)]):=y;refine bS (qV (s:=((j:Nat):Int)) (by omega) y) ?_;refine bS (zU (s:=((j:Nat):Int)) o (by omega) y rfl) ?_;refine bS (qD rfl) ?_;refine bS (qB (off:=0) rfl rfl) ?_;refine bS (xI rfl) ?_;refine bS (qBf rfl) ?_;refine bS (d:=zF 3 1 (os++[dI H])) (zEb (by omega)) ?_;refine bS (d:=dI ((j+1:Nat):Int)) (qY (qN (by omega))) ?_;exact qS rfl r
  have:=wJ c;have hd:l.drop j=[]:=List.drop_of_length_le (by omega);rw[hd];exact qF rfl (congrArg (zF 3 1) (List.append_nil os).symm)
 refine zFz rfl (qE.step' ?_);refine bS (qD rfl) ?_;refine bS (qB (off:=6) rfl u.one) ?_;refine bS (qI u) ?_;refine qS rfl (vD (P:=λj:Nat=>j<=ns.length->∀os:List Nt,os.length<=j->qE EE (Holds EE) qJy 1 [dI i,dI t,zF 106 7 (os.map mO),M,dI ((M.es.length:Nat):Int),dI ((j:Nat):Int),.agg [dI di,nm,dI ln,dI dy,sp,T,M]] (zF 3 1 ((j0 (os++(ns.drop j).filter (qCi ts i t))).map qDo))) ns.length (λj I=>?_) 0 (Nat.zero_le _) [] (Nat.zero_le _));intro hj os R;refine qE.step' ?_;refine bS qP ?_;refine iC (λc=>?_) λc=>?_
 ·have x:j<ns.length:=by have:=xN c;omega
  obtain⟨n,q,y⟩:=eJ hM x;have C:qCi ts i t n=true->os++(ns.drop j).filter (qCi ts i t)=(os++[n])++(ns.drop (j+1)).filter (qCi ts i t):=λh=>by rw[kL q,List.filter_cons,if_pos h,List.append_assoc];rfl
  have p:qCi ts i t n=false->os++(ns.drop j).filter (qCi ts i t)=os++(ns.drop (j+1)).filter (qCi ts i t):=λh=>by rw[kL q,List.filter_cons,if_neg (by rw[h];simp)]
  have r:=I x x (os++[n]) (by rw[List.length_append];show _+1<=_;omega);have k:=I x x os (by omega);have apn:=zD8 (l:=os) (n:=n) (by omega);have Q:=zCT (n:=n);have e:qCi ts i t n=(decide (n.ti=t)&&(decide (n.pa=i)&&(decide (0<=t)&&decide (t<(ts.length:Int))))):=rfl;generalize qCi ts i t n=b at *;generalize (os++[n]).map mO=lp at *;obtain⟨H,xt,G,O,N,L,J⟩:=n;have y:M.es[j]? = some (.agg [dI H,dI xt,dI G,dI O,dI N,dI L,.leaf (.string J)]):=y;have e:b=(decide (xt=t)&&(decide (G=i)&&(decide (0<=t)&&decide (t<(ts.length:Int))))):=e;refine bS (qV (s:=((j:Nat):Int)) (by omega) y) ?_;refine bS (zU (s:=((j:Nat):Int)) u (by omega) y rfl) ?_;refine bS (qD rfl) ?_;refine bS (qB (off:=1) rfl rfl) ?_;refine bS jO ?_;refine iC (λZ=>?_) λZ=>?_
  ·skip;refine bS (qB (off:=2) rfl rfl) ?_;refine bS jO ?_;refine iC (λX=>?_) λX=>?_
   ·skip;refine bS kT ?_;refine iC (λW=>?_) λW=>?_
    ·skip;refine bS (qB (off:=5) rfl B.one) ?_;refine bS (qI B) ?_;refine bS qP ?_;refine iC (λV=>?_) λV=>?_
     ·have w:decide (t<(ts.length:Int))=true:=by rw[←F];exact V
      have z:decide (0<=t)=true:=W;rw[C (by rw[e,Z,X,z,w];rfl)];refine bS (qD rfl) ?_;refine bS Q ?_;refine bS apn ?_;refine bS (d:=dI ((j+1:Nat):Int)) (qY (qN (by omega))) ?_;exact qS rfl r
     have w:decide (t<(ts.length:Int))=false:=by rw[←F];exact V
     rw[p (by rw[e,w];simp)];refine bS (d:=dI ((j+1:Nat):Int)) (qY (qN (by omega))) ?_;exact qS rfl k
    have z:decide (0<=t)=false:=W;rw[p (by rw[e,z];simp)];refine bS (d:=dI ((j+1:Nat):Int)) (qY (qN (by omega))) ?_;exact qS rfl k
   rw[p (by rw[e,X];simp)];refine bS (d:=dI ((j+1:Nat):Int)) (qY (qN (by omega))) ?_;exact qS rfl k
  rw[p (by rw[e,Z];simp)];refine bS (d:=dI ((j+1:Nat):Int)) (qY (qN (by omega))) ?_;exact qS rfl k
 have:=wJ c;have hd:ns.drop j=[]:=List.drop_of_length_le (by omega);have he:os++([]:List Nt).filter (qCi ts i t)=os:=List.append_nil os;rw[hd,he];have E:=qZA (l:=os) (by omega);obtain⟨K,A⟩:∃K,K=zF 106 7 ((j0 os).map mO):=⟨_,rfl⟩;have o:xU 106 7 K:=by rw[A];exact qGy (by rw[List.length_map,aW];omega)
 have U:K.es=(j0 os).map mO:=by rw[A,xX]
 have k2:=g K (j0 os) o U (by rw[aW];omega);rw[←A]at E;refine bS E ?_;refine bS (qI o) ?_;exact qS rfl k2
end
end Go.Proofs.YtpbmnkajhedaiaaGreat
namespace Go.Proofs.YtpbmnkajhedaiaaGreat
open Go Go.Am Go.Proofs Go.Am.Tr
theorem qQ0{T:D}{ts:List Tr}{t:Int}(x:T.es=ts.map qMx)(b:0<=t)(y:t<(ts.length:Int)):T.es[t.toNat]? = some (.agg [.leaf (.string (rG ts t).nm),dI (rG ts t).kd,dI (rG ts t).rl,dI (rG ts t).pa]):=by
 have h:t.toNat<ts.length:=by omega
 rw[x,List.getElem?_map,List.getElem?_eq_getElem h];have:rG ts t=ts[t.toNat]:=by unfold rG;rw[List.getElem?_eq_getElem h];rfl
 rw[this];rfl
def Up(ts:List Tr):Prop:=∀t:Int,0<=t->t<(ts.length:Int)->(rG ts t).kd≠0->0<=(rG ts t).pa/\(rG ts t).pa<t
theorem qKk{α y:Type}{f:α->List y}{K:Nat}:∀{l:List α},(∀x,(f x).length<=K)->(l.flatMap f).length<=l.length*K
 | [],_=>by simp
 |a::l,h=>by rw[List.flatMap_cons,List.length_append,List.length_cons,Nat.succ_mul];have:=qKk (l:=l) h;have:=h a;omega
theorem qCh{ts:List Tr}{ns:List Nt}{i t:Int}:(nR j0 ts ns i t).length<=ns.length:=by unfold nR;rw[aW];exact List.length_filter_le _ _
theorem qFg{ts:List Tr}{ns:List Nt}(hu:Up ts)(y:ns.length<=14):∀(k:Nat) (t:Int),t<(k:Int)->(qFh j0 ts ns k t).length<=14^(t+1).toNat
 |0,t,h=>Nat.zero_le _
 | k+1,t,h=>by
  rw[qFh];cases c:(decide (t<0)||decide ((ts.length:Int)<=t))with
  |true=>exact Nat.zero_le _
  |false=>
   rw[Bool.or_eq_false_iff]at c;have c1:=dF c.1;have o:=dF c.2;have he:(t+1).toNat=t.toNat+1:=by omega
   have j:1<=14^t.toNat:=Nat.one_le_pow _ _ (by decide);simp only[cond_false];cases f:decide ((rG ts t).kd=0)with
   |true=>simp only[cond_true];have:=qCh (ts:=ts) (ns:=ns) (i:=0) (t:=t);rw[he,Nat.pow_succ];omega
   |false=>simp only[cond_false];have g:=hu t (by omega) (by omega) (dF f);have e:=qFg hu y k (rG ts t).pa (by omega);have b:=qKk (f:=λn=>nR j0 ts ns n.id t) (K:=14) (l:=qFh j0 ts ns k (rG ts t).pa) (λn=>lT qCh y);have x:14^((rG ts t).pa+1).toNat<=14^t.toNat:=Nat.pow_le_pow_right (by decide) (by omega);grind
attribute [local irreducible] Go.Am.wp Go.Am.TOp.eval
section
variable{di ln dy:Int}{nm sp T M:D}{ts:List Tr}{ns:List Nt}
theorem zGw(q:nm.one=true)(p:sp.one=true)(h:xU 102 4 T)(G:T.es=ts.map qMx)(B:xU 106 7 M)(U:M.es=ns.map mO)(R:ns.length<=14)(F:Up ts)(h6:ts.length<=6):∀(k:Nat) (t:Int),t<(k:Int)->Holds EE 47 [.agg [dI di,nm,dI ln,dI dy,sp,T,M],dI t] (zF 3 1 ((qFh j0 ts ns k t).map qDo)):=by
 have r:T.es.length=ts.length:=by rw[G,List.length_map]
 intro k;induction k with
 |zero=>
  intro t N;refine zEs rfl (qE.step' ?_);refine bS (qD rfl) ?_;refine bS qP ?_;refine iC (λc=>?_) λc=>?_
  ·exact qF rfl rfl
  have:=dF c;omega
 | succ k Z=>
  intro t N;refine zEs rfl (qE.step' ?_);refine bS (qD rfl) ?_;refine bS qP ?_;refine iC (λc=>?_) λc=>?_
  ·have he:qFh j0 ts ns (k+1) t=[]:=by rw[qFh,show decide (t<0)=true from c];rfl
   rw[he];exact qF rfl rfl
  have I:decide (t<0)=false:=c;have c1:=dF I;have L:0<=t:=by omega
  refine bS (qB (off:=5) rfl h.one) ?_;refine bS (qI h) ?_;refine bS kT ?_;refine iC (λd=>?_) λd=>?_
  ·have W:=dT d;have he:qFh j0 ts ns (k+1) t=[]:=by rw[qFh,I,show decide ((ts.length:Int)<=t)=true from tD (by rw[←r];omega)];rfl
   rw[he];exact qF rfl rfl
  have W:=dF d;have o:t<(ts.length:Int):=by rw[←r];omega
  have X:decide ((ts.length:Int)<=t)=false:=fD (by omega);have w:=qQ0 G L o;have he:qFh j0 ts ns (k+1) t=bif decide ((rG ts t).kd=0)then nR j0 ts ns 0 t else(qFh j0 ts ns k (rG ts t).pa).flatMap λn=>nR j0 ts ns n.id t:=by rw[qFh,I,X];rfl
  rw[he];have b:∀i:Int,Holds EE 79 [.agg [dI di,nm,dI ln,dI dy,sp,T,M],dI i,dI t] (zF 3 1 ((nR j0 ts ns i t).map qDo)):=λi=>zGs q p h G B U (by omega);refine bS (qB (off:=5) rfl h.one) ?_;refine bS (qV (s:=t) (by omega) w) ?_;refine bS (jD (s:=t) (off:=1) h (by omega) w rfl rfl (by decide)) ?_;refine bS jO ?_;refine iC (λf=>?_) λf=>?_
  ·rw[show decide ((rG ts t).kd=0)=true from f];refine cS (b 0) ?_;exact qF rfl rfl
  have f1:=dF f;have hu:=F t L o f1;rw[show decide ((rG ts t).kd=0)=false from f];have z:=Z (rG ts t).pa (by omega);have O:(qFh j0 ts ns k (rG ts t).pa).length<=537824:=lT (qFg F R k _ (by omega)) (lT (Nat.pow_le_pow_right (n:=14) (by decide) (show(((rG ts t).pa)+1).toNat<=5 by omega)) (by decide));generalize qFh j0 ts ns k (rG ts t).pa=l at *;obtain⟨K,H⟩:∃K,K=zF 3 1 (l.map qDo):=⟨_,rfl⟩;have e:xU 3 1 K:=by rw[H];exact qGy (by rw[List.length_map];omega)
  have u:K.es=l.map qDo:=by rw[H,xX]
  have V:K.es.length=l.length:=by rw[u,List.length_map]
  rw[←H]at z;refine bS (qB (off:=5) rfl h.one) ?_;refine bS (qV (s:=t) (by omega) w) ?_;refine bS (jD (s:=t) (off:=3) h (by omega) w rfl rfl (by decide)) ?_;refine cS z ?_;refine bS (qI e) ?_;refine qS rfl (vD (P:=λj:Nat=>j<=l.length->∀os:List D,os.length<=j*19->qE EE (Holds EE) qTU 1 [dI t,zF 3 1 os,K,dI ((K.es.length:Nat):Int),dI ((j:Nat):Int),.agg [dI di,nm,dI ln,dI dy,sp,T,M]] (zF 3 1 (os++((l.drop j).flatMap λn=>nR j0 ts ns n.id t).map qDo))) l.length (λj z=>?_) 0 (Nat.zero_le _) [] (Nat.zero_le _));intro hj os Q;refine qE.step' ?_;refine bS qP ?_;refine iC (λg=>?_) λg=>?_
  ·have y:j<l.length:=by have:=xN g;omega
   obtain⟨n,E,x⟩:=eJ u y;have x:K.es[j]? = some (dI n.id):=x;have C:os++((l.drop j).flatMap λn=>nR j0 ts ns n.id t).map qDo=(os++(nR j0 ts ns n.id t).map qDo)++((l.drop (j+1)).flatMap λn=>nR j0 ts ns n.id t).map qDo:=by rw[kL E,List.flatMap_cons,List.map_append,List.append_assoc]
   rw[C];have S:=qCh (ts:=ts) (ns:=ns) (i:=n.id) (t:=t);have A:=z y y (os++(nR j0 ts ns n.id t).map qDo) (by rw[List.length_append,List.length_map];omega);have J:=zD9 (l:=os) (m:=nR j0 ts ns n.id t) (by omega);refine bS (qV (s:=((j:Nat):Int)) (by omega) x) ?_;refine bS (jJ (s:=((j:Nat):Int)) e (by omega) x rfl) ?_;refine cS (b n.id) ?_;refine bS J ?_;refine bS (d:=dI ((j+1:Nat):Int)) (qY (qN (by omega))) ?_;exact qS rfl A
  have:=wJ g;have hd:l.drop j=[]:=List.drop_of_length_le (by omega);rw[hd];exact qF rfl (congrArg (zF 3 1) (List.append_nil os).symm)
end
end Go.Proofs.YtpbmnkajhedaiaaGreat
namespace Go.Proofs.YtpbmnkajhedaiaaGreat
open Go Go.Am Go.Proofs Go.Am.Tr
abbrev Pr:=Int×Int
theorem zCe:fU EE.prog 4 50=some [.int .i64,.int .i64]:=by kernel_rfl
theorem zCu:lQ EE.prog 50=true:=by kernel_rfl
theorem zDa:EE.prog.eqGuardType EE.prog.depth 50=false:=by kernel_rfl
theorem dq{p q:Pr}:tP [dI p.1,dI p.2] [dI q.1,dI q.2]=decide (p=q):=by simp only[qEy,qHg,qHh,qJw,Bool.and_true];grind
theorem zE3{x y:Operand}{a b c d:Int}:TOp.eval EE (.bin .eql 50 x y) [.agg [dI a,dI b],.agg [dI c,dI d]]=some (dB (decide (((a,b):Pr)=(c,d)))):=by rw[sE .eql (.inr rfl) zCe zCu (by decide:4<=10000) zDa rfl (x:=x) (y:=y) (jS wT (jS wT mT)) (jS wT (jS wT mT))];exact congrArg (λt=>some (dB t)) (dq (p:=(a,b)) (q:=(c,d)))
def qDn(w:Wd):D:=.agg [dI w.1.1,dI w.1.2,.leaf (.string w.2)]
def toR(p:Pr):D:=.agg [dI p.1,dI p.2]
theorem zCS{w:Wd}:TOp.eval EE (.lit 83 3) [qDn w]=some (.sl 83 3 [qDn w]):=rfl
theorem qJj{l:List D}{w:Wd}(h:l.length+1<=100000000):TOp.eval EE (.app 83 3 32) [zF 83 3 l,.sl 83 3 [qDn w]]=some (zF 83 3 (l++[qDn w])):=
 eK (B:=w.2.size+1) (e:=.st [.int .i64,.int .i64,.str]) (rD (show 1<=_ by omega) λx y=>by rw[List.mem_singleton.1 y];exact lH (qW vO (qW vO (qW (cH (by omega)) jY)))) (by decide) (by show _+1<=_;omega)
def zEh(d:D)(c:Dc):Prop:=∃nm ln dy sp T M,d=.agg [dI c.id,nm,dI ln,dI dy,sp,T,M]/\nm.one=true/\sp.one=true/\xU 102 4 T/\T.es=c.ts.map qMx/\xU 106 7 M/\M.es=c.ns.map mO
def tZ(c:Dc):Prop:=Up c.ts/\c.ts.length<=6/\c.ns.length<=14
theorem qRm{c:Dc}(h:tZ c):mU c.ts 2<((7:Nat):Int):=by
 have:=h.2.1;rcases qJN c.ts 2 with e|e
 ·omega
 omega
def qQJ(X:D)(cs:List Dc):Prop:=xU 63 7 X/\X.es.length=cs.length/\∀(i:Nat) (c:Dc),cs[i]? = some c->∃d,X.es[i]? = some d/\zEh d c
theorem qHR{c:Dc}(h:tZ c):(wP j0 7 c).length<=7529536:=by
 unfold wP;rw[List.length_map];have:=h.2.1;rcases qJN c.ts 2 with e|e
 ·rw[e,qRQ (by decide)];exact Nat.zero_le _
 exact lT (qFg h.1 h.2.2 7 _ (by omega)) (lT (Nat.pow_le_pow_right (n:=14) (by decide) (show(mU c.ts 2+1).toNat<=6 by omega)) (by decide))
attribute [local irreducible] Go.Am.wp Go.Am.TOp.eval
theorem zGx{X:D}{cs:List Dc}(N:qQJ X cs)(Z:∀c∈cs,tZ c)(h2:cs.length<=2):Holds EE 25 [X] (zF 83 3 ((cs.flatMap (wP j0 7)).map qDn)):=by
 obtain⟨B,hl,N⟩:=N;refine zFH rfl (qE.step' ?_);refine bS (qI B) ?_;refine qS rfl (vD (P:=λi:Nat=>i<=cs.length->∀os:List D,os.length<=i*7529536->qE EE (Holds EE) qJz 1 [zF 83 3 os,X,dI ((X.es.length:Nat):Int),dI ((i:Nat):Int)] (zF 83 3 (os++((cs.drop i).flatMap (wP j0 7)).map qDn))) cs.length (λi S=>?_) 0 (Nat.zero_le _) [] (Nat.zero_le _));intro hi os W;refine qE.step' ?_;refine bS qP ?_;refine iC (λq=>?_) λq=>?_
 ·have t:i<cs.length:=by have:=xN q;omega
  obtain⟨c,z⟩:∃c,cs[i]? = some c:=⟨_,List.getElem?_eq_getElem t⟩;have u:=Z c (List.mem_of_getElem? z);obtain⟨d,H,nm,ln,dy,sp,T,M,rfl,o,k,b,Q,C,R⟩:=N i c z;have J:os++((cs.drop i).flatMap (wP j0 7)).map qDn=(os++(wP j0 7 c).map qDn)++((cs.drop (i+1)).flatMap (wP j0 7)).map qDn:=by rw[kL z,List.flatMap_cons,List.map_append,List.append_assoc]
  rw[J];have F:=qHR u;have A:=S t t (os++(wP j0 7 c).map qDn) (by rw[List.length_append,List.length_map];omega);have qZ3:=zGv (r:=2) b Q (by decide) (by have:=u.2.1;omega);have zBt:=zGw (di:=c.id) (ln:=ln) (dy:=dy) o k b Q C R u.2.2 u.1 u.2.1 7 (mU c.ts 2) (qRm u);have x:=λr:Int=>zGu (di:=c.id) (ln:=ln) (dy:=dy) (r:=r) o k b.one C R (by have:=u.2.2;omega);have U:wP j0 7 c=(qFh j0 c.ts c.ns 7 (mU c.ts 2)).map λn=>((c.id,n.id),(gd c.ns n.id).tx):=rfl;rw[U]at A F ⊢;rw[List.length_map]at F;generalize qFh j0 c.ts c.ns 7 (mU c.ts 2)=l at *;generalize ((cs.drop (i+1)).flatMap (wP j0 7)).map qDn=rest at *;generalize mU c.ts 2=ro at *;obtain⟨K,O⟩:∃K,K=zF 3 1 (l.map qDo):=⟨_,rfl⟩;have E:xU 3 1 K:=by rw[O];exact qGy (by rw[List.length_map];omega)
  have G:K.es=l.map qDo:=by rw[O,xX]
  have hKl:K.es.length=l.length:=by rw[G,List.length_map]
  rw[←O]at zBt;refine bS (qV (s:=((i:Nat):Int)) (by omega) H) ?_;refine bS (zU (s:=((i:Nat):Int)) B (by omega) H rfl) ?_;refine bS (qD rfl) ?_;refine bS (qB (off:=5) rfl b.one) ?_;refine cS qZ3 ?_;refine cS zBt ?_;refine bS (qI E) ?_;refine qS rfl (vD (P:=λj:Nat=>j<=l.length->qE EE (Holds EE) qJz 2 [zF 83 3 (os++((l.take j).map λn=>(((c.id,n.id),(gd c.ns n.id).tx):Wd)).map qDn),X,dI ((X.es.length:Nat):Int),dI ((i:Nat):Int),K,dI ((K.es.length:Nat):Int),dI ((j:Nat):Int),.agg [dI c.id,nm,dI ln,dI dy,sp,T,M]] (zF 83 3 ((os++(l.map λn=>(((c.id,n.id),(gd c.ns n.id).tx):Wd)).map qDn)++rest))) l.length (λj y=>?_) 0 (Nat.zero_le _) |> λh=>by rw[List.take_zero,List.map_nil,List.map_nil,List.append_nil]at h;exact h);intro hj;refine qE.step' ?_;refine bS qP ?_;refine iC (λg=>?_) λg=>?_
  ·have p:j<l.length:=by have:=xN g;omega
   obtain⟨n,L,e⟩:=eJ G p;have e:K.es[j]? = some (dI n.id):=e;have y:=y p p;have I:l.take (j+1)=l.take j++[n]:=by rw[List.take_add_one,L];rfl
   rw[I,List.map_append,List.map_append,←List.append_assoc]at y;have ap:=qJj (l:=os++((l.take j).map λn=>(((c.id,n.id),(gd c.ns n.id).tx):Wd)).map qDn) (w:=((c.id,n.id),(gd c.ns n.id).tx)) (by rw[List.length_append,List.length_map,List.length_map,List.length_take];omega);have lt:=zCS (w:=((c.id,n.id),(gd c.ns n.id).tx));have x:=x n.id;unfold qIL at x;generalize (getN c.ns n.id).isSome=sb at x;have e1:(getN c.ns n.id).getD zN=gd c.ns n.id:=rfl;rw[e1]at x;have y:qE EE (Holds EE) qJz 2 [zF 83 3 ((os++((l.take j).map λn=>(((c.id,n.id),(gd c.ns n.id).tx):Wd)).map qDn)++[qDn ((c.id,n.id),(gd c.ns n.id).tx)]),X,dI ((X.es.length:Nat):Int),dI ((i:Nat):Int),K,dI ((K.es.length:Nat):Int),dI ((j+1:Nat):Int),.agg [dI c.id,nm,dI ln,dI dy,sp,T,M]] _:=y;generalize zF 83 3 ((os++((l.take j).map λn=>(((c.id,n.id),(gd c.ns n.id).tx):Wd)).map qDn)++[qDn ((c.id,n.id),(gd c.ns n.id).tx)])=R1 at *;generalize zF 83 3 (os++((l.take j).map λn=>(((c.id,n.id),(gd c.ns n.id).tx):Wd)).map qDn)=R0 at *;generalize gd c.ns n.id=gn at *;obtain⟨xi,xt,xp,xf,xo,xr,xx⟩:=gn;refine bS (qV (s:=((j:Nat):Int)) (by omega) e) ?_;refine bS (jJ (s:=((j:Nat):Int)) E (by omega) e rfl) ?_;refine cS x ?_;refine bS (vV rfl) ?_;refine bS (vV rfl) ?_;refine bS (qD rfl) ?_;refine bS (qB (off:=0) rfl rfl) ?_;refine bS (qB (off:=6) rfl rfl) ?_;refine bS (qD rfl) ?_;refine bS lt ?_;refine bS ap ?_;refine bS (d:=dI ((j+1:Nat):Int)) (qY (qN (by omega))) ?_;exact qS rfl y
  have:=wJ g;have V:l.take j=l:=List.take_of_length_le (by omega);rw[V];refine bS (d:=dI ((i+1:Nat):Int)) (qY (qN (by omega))) ?_;exact qS rfl A
 have:=wJ q;have hd:cs.drop i=[]:=List.drop_of_length_le (by omega);rw[hd];exact qF rfl (congrArg (zF 83 3) (List.append_nil os).symm)
open Go.Am.Tt
theorem qUJ{f:FuncId}{S:Tt.Spec}(h:xZ (Holds EE) f S)(y:S.rs=[.int .i64])(c:Sn.leasts 1048576 S.ss=true){ds:List D}(hd:j4 1048576 (Sn.shs S.ss) ds)(b:∀q∈S.pre,qAS ds q):∃n:Int,Holds EE f ds (dI n):=by obtain⟨g,x,_,e⟩:=h ds (yY c hd) b;rw[y]at x;simp only[qU,qM]at x;obtain⟨d,_,rfl,⟨n,rfl⟩,rfl⟩:=x;exact⟨n,e⟩
theorem qZn{f:FuncId}{S:Tt.Spec}(h:xZ (Holds EE) f S)(y:S.rs=[.bool])(e:Sn.leasts 1048576 S.ss=true){ds:List D}(hd:j4 1048576 (Sn.shs S.ss) ds)(c:∀q∈S.pre,qAS ds q):∃b:Bool,Holds EE f ds (dB b):=by obtain⟨i,x,_,g⟩:=h ds (yY e hd) c;rw[y]at x;simp only[qU,qM]at x;obtain⟨d,_,rfl,⟨n,rfl⟩,rfl⟩:=x;exact⟨n,g⟩
abbrev qMs:Sh:=.sl 102 4 (.st [.str,.int .i64,.int .i64,.int .i64])
abbrev zBg:Sh:=.sl 106 7 zEd
theorem qMN{B el sz:Nat}{e:Sh}{d:D}(h:qC B (.sl el sz e) d):kF d=(d.es.length:Int):=by simp only[qC]at h;rcases h with rfl|⟨es,rfl,_⟩<;>rfl
theorem zDe{T:D}{ts:List Tr}{i:Nat}{t:Tr}(I:qC 1048576 qMs T)(H:T.es=ts.map qMx)(ht:ts[i]? = some t)(hn:ts.length<=1000):∃e:Int,Holds EE 109 [T,dI ((i:Nat):Int)] (dI e)/\(e=0->qX1 ts i t):=by
 have o:=qA I;have U:T.es.length=ts.length:=by rw[H,List.length_map]
 have W:i<ts.length:=(gI ht).1;by_cases E:qX1 ts i t
 · obtain⟨n,h⟩:=qUJ (k9 f6 (f:=109) (S:=zAZ.S) (by kernel_rfl)) rfl (by decide) (ds:=[T,dI ((i:Nat):Int)]) (qIK I vO) (by
     intro q A
     have hv:=qMN I
     rcases List.mem_cons.1 A with rfl|A
     ·show(0:Int)<=((i:Nat):Int)+0;omega
     · rcases List.mem_cons.1 A with rfl|A
       ·show((i:Nat):Int)<=kF T + -1;rw[hv,U];omega
       ·cases A)
   exact⟨n,h,λ_=>E⟩
 ·refine (?_:∃e:Int,e≠0/\Holds EE 109 [T,dI ((i:Nat):Int)] (dI e)).elim λe h=>⟨e,h.2,λhe=>absurd he h.1⟩;have l:T.es[i]? = some (qMx t):=by rw[H,List.getElem?_map,ht];rfl
  have L:=zO I l;obtain⟨nm,kd,rl,pa⟩:=t;have l:T.es[i]? = some (.agg [.leaf (.string nm),dI kd,dI rl,dI pa]):=l;have N:nm.size<=1048576:=by obtain⟨_,he,x,_,rfl,⟨s,rfl,hs⟩,_⟩:=L;cases he;exact hs
  obtain⟨Q,C⟩:=qZn (k9 f6 (f:=92) (S:=zDl.S) (by kernel_rfl)) rfl (by decide) (ds:=[.leaf (.string nm)]) (qLS (cH N)) (λq A=>by cases A);have u:¬(0<=kd/\kd<=4/\(kd≠0->0<=pa/\pa<(i:Int))):=E;have J:(0<=kd/\kd<=4)->∃e:Int,e≠0/\qE EE (Holds EE) qBy 2 [T,dI ((i:Nat):Int),dI ((0:Nat):Int),.agg [.leaf (.string nm),dI kd,dI rl,dI pa]] (dI e):=by
   intro B;have O:kd≠0:=λh=>u ⟨B.1,B.2,λh'=>absurd h h'⟩;have R:¬(0<=pa/\pa<(i:Int)):=λh=>u ⟨B.1,B.2,λ_=>h⟩;refine cG (P:=λj=>∃e:Int,e≠0/\qE EE (Holds EE) qBy 2 [T,dI ((i:Nat):Int),dI ((j:Nat):Int),.agg [.leaf (.string nm),dI kd,dI rl,dI pa]] (dI e)) i ?_ ?_
   ·refine⟨13,by decide,qE.step' ?_⟩;refine bS qP ?_;refine iC (λc=>?_) λc=>?_
    ·have:=xN c;omega
    ·skip;refine bS (qB (off:=1) rfl rfl) ?_;refine bS jO ?_;refine iC (λd=>?_) λd=>?_
     ·exact absurd (dT d) O
     ·skip;refine bS (qB (off:=3) rfl rfl) ?_;refine bS qP ?_;refine iC (λf=>?_) λf=>?_
      ·exact qF rfl rfl
      ·have f1:¬pa<0:=dF f;refine bS (qB (off:=3) rfl rfl) ?_;refine bS kT ?_;refine iC (λg=>?_) λg=>?_
       ·exact qF rfl rfl
       ·have g1:=dF g;omega
   ·intro j V ⟨e,b,G⟩;obtain⟨K,F,y⟩:=eJ H (show j<ts.length by omega);obtain⟨r,z,p,w⟩:=K;have y:T.es[j]? = some (.agg [.leaf (.string r),dI z,dI p,dI w]):=y;by_cases hs:rl=p/\rl≠0
    ·refine⟨8,by decide,qE.step' ?_⟩;refine bS qP ?_;refine iC (λc=>?_) λc=>?_
     ·skip;refine bS (qB (off:=2) rfl rfl) ?_;refine bS jW ?_;refine iC (λd=>?_) λd=>?_
      ·skip;refine bS (qV (s:=((j:Nat):Int)) (by omega) y) ?_;refine bS (jD (s:=((j:Nat):Int)) (off:=2) o (by omega) y rfl rfl (by decide)) ?_;refine bS (qB (off:=2) rfl rfl) ?_;refine bS jO ?_;refine iC (λf=>?_) λf=>?_
       ·exact qF rfl rfl
       ·exact absurd hs.1.symm (dF f)
      ·exact absurd hs.2 (dF d)
     ·have:=wJ c;omega
    ·refine⟨e,b,qE.step' ?_⟩;refine bS qP ?_;refine iC (λc=>?_) λc=>?_
     ·skip;refine bS (qB (off:=2) rfl rfl) ?_;refine bS jW ?_;refine iC (λd=>?_) λd=>?_
      ·skip;refine bS (qV (s:=((j:Nat):Int)) (by omega) y) ?_;refine bS (jD (s:=((j:Nat):Int)) (off:=2) o (by omega) y rfl rfl (by decide)) ?_;refine bS (qB (off:=2) rfl rfl) ?_;refine bS jO ?_;refine iC (λf=>?_) λf=>?_
       ·exact absurd ⟨(dT f).symm,dT d⟩ hs
       ·skip;refine bS (d:=dI ((j+1:Nat):Int)) (qY (qN (by omega))) ?_;exact qS rfl G
      ·skip;refine bS (d:=dI ((j+1:Nat):Int)) (qY (qN (by omega))) ?_;exact qS rfl G
     ·have:=wJ c;omega
  have one:∃e:Int,e≠0/\qE EE (Holds EE) qBy 1 [T,dI ((i:Nat):Int),dI ((0:Nat):Int),.agg [.leaf (.string nm),dI kd,dI rl,dI pa]] (dI e):=by
   refine cG (P:=λj=>∃e:Int,e≠0/\qE EE (Holds EE) qBy 1 [T,dI ((i:Nat):Int),dI ((j:Nat):Int),.agg [.leaf (.string nm),dI kd,dI rl,dI pa]] (dI e)) i ?_ ?_
   ·by_cases B:0<=kd/\kd<=4
    ·by_cases hr:0<=rl/\rl<=5
     ·obtain⟨e,b,X⟩:=J B;refine⟨e,b,qE.step' ?_⟩;refine bS qP ?_;refine iC (λc=>?_) λc=>?_
      ·have:=xN c;omega
      ·skip;refine bS (qB (off:=1) rfl rfl) ?_;refine bS qP ?_;refine iC (λd=>?_) λd=>?_
       ·have:=dT d;omega
       ·skip;refine bS (qB (off:=1) rfl rfl) ?_;refine bS zW ?_;refine iC (λf=>?_) λf=>?_
        ·have:=dT f;omega
        ·skip;refine bS (qB (off:=2) rfl rfl) ?_;refine bS qP ?_;refine iC (λg=>?_) λg=>?_
         ·have:=dT g;omega
         ·skip;refine bS (qB (off:=2) rfl rfl) ?_;refine bS zW ?_;refine iC (λk=>?_) λk=>?_
          ·have:=dT k;omega
          ·exact qS rfl X
     ·refine⟨2,by decide,qE.step' ?_⟩;refine bS qP ?_;refine iC (λc=>?_) λc=>?_
      ·have:=xN c;omega
      ·skip;refine bS (qB (off:=1) rfl rfl) ?_;refine bS qP ?_;refine iC (λd=>?_) λd=>?_
       ·have:=dT d;omega
       ·skip;refine bS (qB (off:=1) rfl rfl) ?_;refine bS zW ?_;refine iC (λf=>?_) λf=>?_
        ·have:=dT f;omega
        ·skip;refine bS (qB (off:=2) rfl rfl) ?_;refine bS qP ?_;refine iC (λg=>?_) λg=>?_
         ·exact qF rfl rfl
         ·have g1:=dF g;refine bS (qB (off:=2) rfl rfl) ?_;refine bS zW ?_;refine iC (λk=>?_) λk=>?_
          ·exact qF rfl rfl
          ·have:=dF k;omega
    ·refine⟨14,by decide,qE.step' ?_⟩;refine bS qP ?_;refine iC (λc=>?_) λc=>?_
     ·have:=xN c;omega
     ·skip;refine bS (qB (off:=1) rfl rfl) ?_;refine bS qP ?_;refine iC (λd=>?_) λd=>?_
      ·exact qF rfl rfl
      ·have d1:=dF d;refine bS (qB (off:=1) rfl rfl) ?_;refine bS zW ?_;refine iC (λf=>?_) λf=>?_
       ·exact qF rfl rfl
       ·have:=dF f;omega
   ·intro j V ⟨e,b,G⟩;obtain⟨K,F,y⟩:=eJ H (show j<ts.length by omega);obtain⟨r,z,p,w⟩:=K;have y:T.es[j]? = some (.agg [.leaf (.string r),dI z,dI p,dI w]):=y;cases hs:(r==nm)with
    | true=>
     refine⟨8,by decide,qE.step' ?_⟩;refine bS qP ?_;refine iC (λc=>?_) λc=>?_
     ·skip;refine bS (qV (s:=((j:Nat):Int)) (by omega) y) ?_;refine bS (jD (s:=((j:Nat):Int)) (off:=0) o (by omega) y rfl rfl (by decide)) ?_;refine bS (qB (off:=0) rfl rfl) ?_;refine bS e7 ?_;refine iC (λd=>?_) λd=>?_
      ·exact qF rfl rfl
      ·rw[hs]at d;cases d
     ·have:=wJ c;omega
    | false=>
     refine⟨e,b,qE.step' ?_⟩;refine bS qP ?_;refine iC (λc=>?_) λc=>?_
     ·skip;refine bS (qV (s:=((j:Nat):Int)) (by omega) y) ?_;refine bS (jD (s:=((j:Nat):Int)) (off:=0) o (by omega) y rfl rfl (by decide)) ?_;refine bS (qB (off:=0) rfl rfl) ?_;refine bS e7 ?_;refine iC (λd=>?_) λd=>?_
      ·rw[hs]at d;cases d
      ·skip;refine bS (d:=dI ((j+1:Nat):Int)) (qY (qN (by omega))) ?_;exact qS rfl G
     ·have:=wJ c;omega
  cases Q with
  |false=>
   refine⟨7,by decide,qZk rfl (qE.step' ?_)⟩;refine bS (qV (s:=((i:Nat):Int)) (by omega) l) ?_;refine bS (zU (s:=((i:Nat):Int)) o (by omega) l rfl) ?_;refine bS (qD rfl) ?_;refine bS (qB (off:=0) rfl rfl) ?_;refine cS C ?_;refine bS jU ?_;refine iC (λc=>?_) λc=>?_
   ·exact qF rfl rfl
   ·cases c
  |true=>
   obtain⟨e,b,Z⟩:=one;refine⟨e,b,qZk rfl (qE.step' ?_)⟩;refine bS (qV (s:=((i:Nat):Int)) (by omega) l) ?_;refine bS (zU (s:=((i:Nat):Int)) o (by omega) l rfl) ?_;refine bS (qD rfl) ?_;refine bS (qB (off:=0) rfl rfl) ?_;refine cS C ?_;refine bS jU ?_;refine iC (λc=>?_) λc=>?_
   ·cases c
   ·exact qS rfl Z
theorem zGC{T:D}{ts:List Tr}(o:qC 1048576 qMs T)(l:T.es=ts.map qMx):∃e:Int,Holds EE 70 [T] (dI e)/\(e=0->∀(i:Nat) (t:Tr),ts[i]? = some t->qX1 ts i t):=by
 have x:=qA o;have F:T.es.length=ts.length:=by rw[l,List.length_map]
 by_cases E:ts.length<=12
 ·have y:∃e:Int,qE EE (Holds EE) qMS 1 [T,dI ((0:Nat):Int)] (dI e)/\(e=0->∀(i:Nat) (t:Tr),0<=i->ts[i]? = some t->qX1 ts i t):=by
   refine cG (P:=λj=>∃e:Int,qE EE (Holds EE) qMS 1 [T,dI ((j:Nat):Int)] (dI e)/\(e=0->∀(i:Nat) (t:Tr),j<=i->ts[i]? = some t->qX1 ts i t)) ts.length ?_ ?_
   ·refine⟨0,qE.step' ?_,λ_ i t A b=>?_⟩
    ·refine bS (qI x) ?_
     refine bS qP ?_
     refine iC (λc=>?_) λc=>?_
     ·have:=xN c;omega
     exact qF rfl rfl
    grind
   intro j w ⟨e,p,z⟩
   obtain⟨t,g⟩:∃t,ts[j]? = some t:=⟨_,List.getElem?_eq_getElem w⟩
   obtain⟨q,k,u⟩:=zDe o l g (by omega)
   by_cases r:q=0
   ·refine⟨e,qE.step' ?_,λhe i C A b=>?_⟩
    ·refine bS (qI x) ?_
     refine bS qP ?_
     refine iC (λc=>?_) λc=>?_
     ·skip
      refine cS k ?_
      refine bS jW ?_
      refine iC (λd=>?_) λd=>?_
      ·grind
      refine bS (d:=dI ((j+1:Nat):Int)) (qY (qN (by omega))) ?_
      exact qS rfl p
     have:=wJ c;omega
    grind
   refine⟨q,qE.step' ?_,λhe=>absurd he r⟩
   refine bS (qI x) ?_
   refine bS qP ?_
   refine iC (λc=>?_) λc=>?_
   ·skip
    refine cS k ?_
    refine bS jW ?_
    refine iC (λd=>?_) λd=>?_
    ·exact qF rfl rfl
    grind
   have:=wJ c;omega
  obtain⟨e,h,he⟩:=y
  refine⟨e,zEn rfl (qE.step' ?_),λB i t b=>he B i t (Nat.zero_le _) b⟩
  refine bS (qI x) ?_
  refine bS zW ?_
  refine iC (λc=>?_) λc=>?_
  ·grind
  exact qS rfl h
 refine⟨11,zEn rfl (qE.step' ?_),λh=>by cases h⟩;refine bS (qI x) ?_;refine bS zW ?_;refine iC (λc=>?_) λc=>?_
 ·exact qF rfl rfl
 grind
abbrev qHH:Sh:=.st [.int .i64,.str,.int .i64,.int .i64,.sl 3 1 (.int .i64),qMs,zBg]
theorem qYr{ts:List Tr}(h:∀(i:Nat) (t:Tr),ts[i]? = some t->qX1 ts i t):Up ts:=λt c b y=>by
 have x:t.toNat<ts.length:=by omega
 have e:rG ts t=ts[t.toNat]:=by unfold rG;rw[List.getElem?_eq_getElem x];rfl
 have:=(h t.toNat _ (List.getElem?_eq_getElem x)).2.2
 grind
section
variable{di ln dy:Int}{nm sp T M:D}{ts:List Tr}{ns:List Nt}
theorem zGG(l:qC 1048576 qHH (.agg [dI di,nm,dI ln,dI dy,sp,T,M]))(i:nm.one=true)(g:sp.one=true)(x:qC 1048576 qMs T)(k:T.es=ts.map qMx)(j:xU 106 7 M):∃e:Int,Holds EE 38 [.agg [dI di,nm,dI ln,dI dy,sp,T,M]] (dI e)/\(e=0->Up ts):=by
 have y:=qA x;obtain⟨q,c,o⟩:=zGC x k;by_cases b:q=0
 ·obtain⟨e,he⟩:=qUJ (k9 f6 (f:=38) (S:=zFm.S) (by kernel_rfl)) rfl (by decide) (ds:=[.agg [dI di,nm,dI ln,dI dy,sp,T,M]]) (qLS l) (λq c=>by cases c);exact⟨e,he,λ_=>qYr (o b)⟩
 refine⟨q,zFE rfl (qE.step' ?_),λh=>absurd h b⟩;refine bS (qD rfl) ?_;refine bS (qB (off:=5) rfl y.one) ?_;refine cS c ?_;refine bS jW ?_;refine qL (t:=true) (congrArg (λq=>dB q) (tD b)) ?_;refine xJ ?_;exact qF rfl rfl
theorem zGI(p:qC 1048576 qHH (.agg [dI di,nm,dI ln,dI dy,sp,T,M]))(g:nm.one=true)(y:xU 3 1 sp)(i:qC 1048576 qMs T)(j:T.es=ts.map qMx)(x:xU 106 7 M)(o:M.es=ns.map mO):∃b:Bool,Holds EE 18 [.agg [dI di,nm,dI ln,dI dy,sp,T,M]] (dB b)/\(b=true->Up ts/\ts.length<=6/\ns.length<=14):=by
 have c:=qA i;have w:M.es.length=ns.length:=by rw[o,List.length_map]
 have l:T.es.length=ts.length:=by rw[j,List.length_map]
 by_cases u:ns.length<=14
 ·by_cases r:ts.length<=6
  ·obtain⟨e,qZ3,f38⟩:=zGG p g y.one i j x;by_cases k:((sp.es.length:Nat):Int)<=6
   ·refine⟨decide (e=0),zBj rfl (qE.step' ?_),λh=>⟨f38 (dT h),r,u⟩⟩;refine bS (qD rfl) ?_;refine bS (qB (off:=6) rfl x.one) ?_;refine bS (qI x) ?_;refine bS kS ?_;refine qL (t:=true) (congrArg (λq=>dB q) (tD (by omega))) ?_;refine xJ ?_;refine bS (qB (off:=5) rfl c.one) ?_;refine bS (qI c) ?_;refine bS kS ?_;refine qL (t:=true) (congrArg (λq=>dB q) (tD (by omega))) ?_;refine xJ ?_;refine bS (qB (off:=4) rfl y.one) ?_;refine bS (qI y) ?_;refine bS kS ?_;refine qL (t:=true) (congrArg (λq=>dB q) (tD k)) ?_;refine xJ ?_;refine cS qZ3 ?_;refine bS jO ?_;exact qF rfl rfl
   refine⟨false,zBj rfl (qE.step' ?_),λh=>by cases h⟩;refine bS (qD rfl) ?_;refine bS (qB (off:=6) rfl x.one) ?_;refine bS (qI x) ?_;refine bS kS ?_;refine qL (t:=true) (congrArg (λq=>dB q) (tD (by omega))) ?_;refine xJ ?_;refine bS (qB (off:=5) rfl c.one) ?_;refine bS (qI c) ?_;refine bS kS ?_;refine qL (t:=true) (congrArg (λq=>dB q) (tD (by omega))) ?_;refine xJ ?_;refine bS (qB (off:=4) rfl y.one) ?_;refine bS (qI y) ?_;refine bS kS ?_;refine qL (t:=false) (congrArg (λq=>dB q) (fD k)) ?_;refine jH ?_;exact qF rfl rfl
  refine⟨false,zBj rfl (qE.step' ?_),λh=>by cases h⟩;refine bS (qD rfl) ?_;refine bS (qB (off:=6) rfl x.one) ?_;refine bS (qI x) ?_;refine bS kS ?_;refine qL (t:=true) (congrArg (λq=>dB q) (tD (by omega))) ?_;refine xJ ?_;refine bS (qB (off:=5) rfl c.one) ?_;refine bS (qI c) ?_;refine bS kS ?_;refine qL (t:=false) (congrArg (λq=>dB q) (fD (by omega))) ?_;refine jH ?_;exact qF rfl rfl
 refine⟨false,zBj rfl (qE.step' ?_),λh=>by cases h⟩;refine bS (qD rfl) ?_;refine bS (qB (off:=6) rfl x.one) ?_;refine bS (qI x) ?_;refine bS kS ?_;refine qL (t:=false) (congrArg (λq=>dB q) (fD (by omega))) ?_;refine jH ?_;exact qF rfl rfl
end
end Go.Proofs.YtpbmnkajhedaiaaGreat
