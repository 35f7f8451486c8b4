/- Units of a text, and reading it. Conditions: none. -/
import Derived.Test.YtpbmnkajhedaiaaGreatDh
set_option linter.all false
namespace Go.Proofs.YtpbmnkajhedaiaaGreat
open Go Go.Am Go.Proofs
theorem qQz{l:List D}{t:Int}(h:l.length+1<=300000000):TOp.eval EE (.app 3 1 8) [zF 3 1 l,.sl 3 1 [dI t]]=some (zF 3 1 (l++[dI t])):=
 eK (B:=300000000) (e:=.int .i64) (rD (show 1<=300000000 by decide) λx y=>by rw[List.mem_singleton.1 y];exact⟨t,rfl⟩) (by decide) h
attribute [local irreducible] Go.Am.wp Go.Am.TOp.eval
theorem qZQ(m n:Int):∃q:Int,TOp.eval EE (.mm true) [dI m,dI n]=some (dI q)/\(q=m∨q=n):=by refine⟨if m<n then n else m,?_,by split<;>simp⟩;rw[qPC];rfl
theorem qZR(m n:Int):∃q:Int,TOp.eval EE (.mm false) [dI m,dI n]=some (dI q)/\q<=m/\q<=n/\(q=m∨q=n):=by refine⟨if n<m then n else m,?_,by split<;>omega,by split<;>omega,by split<;>simp⟩;rw[qPC];rfl
theorem qVK{s:ByteArray}{a b:Nat}(x:a<=b)(h:b<=s.size):TOp.eval EE (.sub true true) [.leaf (.string s),dI ((a:Nat):Int),dI ((b:Nat):Int)]=some (.leaf (.string (s.extract a b))):=by rw[qIU];have c:vQ true 0 [dI ((a:Nat):Int),dI ((b:Nat):Int)]=some (a,[dI ((b:Nat):Int)]):=rfl;have y:vQ true s.size [dI ((b:Nat):Int)]=some (b,[]):=rfl;simp only[c,y,bL x,bL h,Bool.and_self,cond_true]
theorem zFM{t:TypeId}{x y:Operand}{p:Nat}(h:p<1000000000):TOp.eval EE (.bin .sub t x y) [dI ((p+1:Nat):Int),dI 1]=some (dI ((p:Nat):Int)):=by
 have:((p+1:Nat):Int)-1=((p:Nat):Int):=by omega
 rw[←this];exact iK (by omega)
abbrev zEg(N:Nat)(ls:List D):Prop:=∀y∈ls,∃j:Nat,y=dI ((j:Nat):Int)/\j<N
abbrev qMA(N M:Nat)(d:D):Prop:=∃(ls:List D) (k:Int),d=.tup [zF 3 1 ls,dI k]/\ls.length<=M/\zEg N ls
theorem zDd{nm us lt:D}{tx:ByteArray}(hn:qC 300000000 .str nm)(hu:qC 300000000 qQQ us)(hl:qC 300000000 qS9 lt)(ht:tx.size<=25165824):∃(ls:List D) (k:Int),Holds EE 130 [.agg [nm,us,lt],.leaf (.string tx)] (.tup [zF 3 1 ls,dI k])/\ls.length<=25165824/\zEg us.es.length ls:=by
 have i_us:=qA hu;have b_us:=qO hu;have i_lt:=qA hl;obtain⟨nms,rfl,hns⟩:=hn;suffices h:∃d,qMA us.es.length 25165824 d/\qE EE (Holds EE) uE 0 [.agg [.leaf (.string nms),us,lt],.leaf (.string tx)] d by obtain⟨_,⟨ls,k,rfl,h1,h2⟩,hgo⟩:=h;exact⟨ls,k,zCa rfl hgo,h1,h2⟩
 have m2 : ∀ (n:Int),0<=n->n<=300000000->∀m at_ (ls:List D),at_<=tx.size->tx.size<=at_+m->ls.length<=at_->zEg us.es.length ls->
     ∃d,qMA us.es.length 25165824 d/\qE EE (Holds EE) uE 2 [.leaf (.string tx),dI n,zF 3 1 ls,dI ((at_:Nat):Int),.agg [.leaf (.string nms),us,lt]] d:=by
   intro n n0 n1 m
   induction m with
   | zero=>
     intro a ls h1 h2 h3 h4
     have hb:qC 300000000 mL (zF 3 1 ls):=nN (by omega) (λy hy=>by obtain⟨j,rfl,_⟩:=h4 y hy;exact⟨_,rfl⟩)
     have i_o:=qA hb
     refine zS (R:=qMA us.es.length 25165824) ?_
     refine bS bW ?_
     refine bS qP ?_
     refine iC (λc=>?_) λc=>?_
     · have:=dT c
       omega
     ·exact qR rfl ⟨ls,_,rfl,by omega,h4⟩
   | succ m ih2=>
     intro a ls h1 h2 h3 h4
     have hb:qC 300000000 mL (zF 3 1 ls):=nN (by omega) (λy hy=>by obtain⟨j,rfl,_⟩:=h4 y hy;exact⟨_,rfl⟩)
     have i_o:=qA hb
     have m3 : ∀ p:Nat,p+a<=tx.size->∃d,qMA us.es.length 25165824 d/\qE EE (Holds EE) uE 3 [.leaf (.string tx),dI n,zF 3 1 ls,dI ((a:Nat):Int),dI ((p:Nat):Int),.agg [.leaf (.string nms),us,lt]] d:=by
       intro p
       induction p with
       | zero=>
         intro _
         refine zS (R:=qMA us.es.length 25165824) ?_
         refine bS zW ?_
         refine iC (λc=>?_) λc=>?_
         · have:=dT c
           omega
         ·exact qR rfl ⟨ls,_,rfl,by omega,h4⟩
       | succ p ih3=>
         intro hp
         refine zS (R:=qMA us.es.length 25165824) ?_
         refine bS zW ?_
         refine iC (λc=>?_) λc=>?_
         · skip
           refine bS (qB (off:=1) rfl i_us.one) ?_
           refine bS (qI i_us) ?_
           refine qQ rfl (vD (P:=λi=>i<=us.es.length->∃d,qMA us.es.length 25165824 d/\qE EE (Holds EE) uE 4 [.leaf (.string tx),dI n,zF 3 1 ls,dI ((a:Nat):Int),dI ((p+1:Nat):Int),us,dI ((us.es.length:Nat):Int),dI ((i:Nat):Int),.agg [.leaf (.string nms),us,lt]] d) us.es.length (λi ih4=>?_) 0 (by omega))
           intro hi
           refine zS (R:=qMA us.es.length 25165824) ?_
           refine bS qP ?_
           refine iC (λd=>?_) λd=>?_
           · have hia:=xN d
             obtain⟨x,e_x⟩:=iA hia
             obtain⟨_,rfl,_,_,rfl,⟨s1,rfl,hs1⟩,sh,_,rfl,hsh,rfl⟩:=zO hu e_x
             have i_sh:=qA hsh
             refine bS (qV (s:=((i:Nat):Int)) (by omega) e_x) ?_
             refine bS (zU (s:=((i:Nat):Int)) i_us (by omega) e_x rfl) ?_
             refine bS (qD rfl) ?_
             refine bS (qB (off:=0) rfl rfl) ?_
             refine bS (d:=dI (((a:Nat):Int)+((p+1:Nat):Int))) (yT (by omega)) ?_
             refine bS (d:=.leaf (.string (tx.extract a (a+(p+1))))) (qVK (a:=a) (b:=a+(p+1)) (by omega) (by omega)) ?_
             refine bS e7 ?_
             refine iC (λf=>?_) λf=>?_
             · skip
               refine bS (xI rfl) ?_
               refine bS (qBf rfl) ?_
               refine bS (d:=zF 3 1 (ls++[dI ((i:Nat):Int)])) (qQz (by omega)) ?_
               refine bS (d:=dI (((a:Nat):Int)+((p+1:Nat):Int))) (yT (by omega)) ?_
               refine qQ rfl (ih2 (a+(p+1)) (ls++[dI ((i:Nat):Int)]) (by omega) (by omega) (by rw[List.length_append];show _+1<=_;omega) (λy hy=>?_))
               rcases List.mem_append.1 hy with hy|hy
               ·exact h4 y hy
               · rw[List.mem_singleton]at hy
                 exact⟨i,hy,hia⟩
             · skip
               refine bS (d:=dI ((i+1:Nat):Int)) (qY (qN (by omega))) ?_
               exact qQ rfl (ih4 hia (by omega))
           · skip
             refine bS (d:=dI ((p:Nat):Int)) (zFM (by omega)) ?_
             exact qQ rfl (ih3 (by omega))
         · have:=dF c
           omega
     refine zS (R:=qMA us.es.length 25165824) ?_
     refine bS bW ?_
     refine bS qP ?_
     refine iC (λc=>?_) λc=>?_
     · have hlt:((a:Nat):Int)<(tx.size:Int):=dT c
       obtain⟨q,hq,q1,q2,q3⟩:=qZR n ((tx.size:Int)-((a:Nat):Int))
       obtain⟨p,rfl⟩:∃p:Nat,q=((p:Nat):Int):=⟨q.toNat,by omega⟩
       refine bS bW ?_
       refine bS (d:=dI ((tx.size:Int)-((a:Nat):Int))) (iK (by omega)) ?_
       refine bS hq ?_
       exact qQ rfl (m3 p (by omega))
     ·exact qR rfl ⟨ls,_,rfl,by omega,h4⟩
 refine zS (R:=qMA us.es.length 25165824) ?_;refine bS (qD rfl) ?_;refine bS (qB (off:=1) rfl i_us.one) ?_;refine bS (qI i_us) ?_;refine qQ rfl (vD (P:=λi=>i<=us.es.length->∀n:Int,0<=n->n<=300000000->∃d,qMA us.es.length 25165824 d/\qE EE (Holds EE) uE 1 [.leaf (.string tx),dI n,us,dI ((us.es.length:Nat):Int),dI ((i:Nat):Int),.agg [.leaf (.string nms),us,lt]] d) us.es.length (λi ih=>?_) 0 (by omega) 0 (by omega) (by omega));intro hi n h1 h2;refine zS (R:=qMA us.es.length 25165824) ?_;refine bS qP ?_;refine iC (λd=>?_) λd=>?_
 ·have hia:=xN d;obtain⟨x,e_x⟩:=iA hia;obtain⟨_,rfl,_,_,rfl,⟨s1,rfl,hs1⟩,sg,_,rfl,hsg,rfl⟩:=zO hu e_x;have i_sg:=qA hsg;obtain⟨q,hq,q1⟩:=qZQ n (s1.size:Int);refine bS (qV (s:=((i:Nat):Int)) (by omega) e_x) ?_;refine bS (zU (s:=((i:Nat):Int)) i_us (by omega) e_x rfl) ?_;refine bS (qD rfl) ?_;refine bS (qB (off:=0) rfl rfl) ?_;refine bS bW ?_;refine bS hq ?_;refine bS (d:=dI ((i+1:Nat):Int)) (qY (qN (by omega))) ?_;exact qQ rfl (ih hia (by omega) q (by omega) (by omega))
 ·exact qQ rfl (m2 n h1 h2 tx.size 0 [] (by omega) (by omega) (by simp) (λy hy=>by cases hy))
abbrev zBE(d:D):Prop:=∃(v:D) (p e:Int),d=.tup [v,dI p,dI e]/\qC 300000000 mL v
theorem zGB{nm us lt:D}{tx:ByteArray}(S:qC 1048576 .str nm)(hu:qC 1048576 qQQ us)(U:qC 1048576 qS9 lt)(K:∀x∈us.es,qRP x)(ht:tx.size<=25165824):∃(v:D) (p e:Int),Holds EE 82 [.agg [nm,us,lt],.leaf (.string tx)] (.tup [v,dI p,dI e])/\qC 300000000 mL v:=by
 have mo:∀{s:Sh} {d:D},qC 1048576 s d->qC 300000000 s d:=λh=>rS (by decide) h;obtain⟨H,k,I,N,r⟩:=zDd (mo S) (mo hu) (mo U) ht;have q:=qA hu;have V:=qO hu;have O:=qA U;obtain⟨u,rfl,hns⟩:=S;have ho:qC 300000000 mL (zF 3 1 H):=nN (by omega) (λy hy=>by obtain⟨j,rfl,_⟩:=r y hy;exact⟨_,rfl⟩);have L:(zF 3 1 H).es=H:=xX;generalize zF 3 1 H=o at *;rw[←L]at N r;have A:=qA ho;suffices h:∃d,zBE d/\qE EE (Holds EE) qMQ 0 [.agg [.leaf (.string u),us,lt],.leaf (.string tx)] d by obtain⟨_,⟨v,p,e,rfl,h1⟩,M⟩:=h;exact⟨v,p,e,zFx rfl M,h1⟩
 refine zS (R:=zBE) ?_;refine bS (qD rfl) ?_;refine bS e7 ?_;refine iC (λc=>?_) λc=>?_
 ·exact qR rfl ⟨.nil,0,4,rfl,xR⟩
 refine cS I ?_;refine bS (vV rfl) ?_;refine bS (vV rfl) ?_;refine bS bW ?_;refine bS qP ?_;refine iC (λd=>?_) λd=>?_
 ·exact qR rfl ⟨.nil,k,20,rfl,xR⟩
 refine bS (qI A) ?_;refine qQ rfl (vD (P:=λi=>i<=o.es.length->∀v:D,qC 300000000 mL v->v.es.length<=3*i->∃d,zBE d/\qE EE (Holds EE) qMQ 1 [v,o,dI ((o.es.length:Nat):Int),dI ((i:Nat):Int),.agg [.leaf (.string u),us,lt]] d) o.es.length (λi X=>?_) 0 (by omega) .nil xR (by simp[D.es]));intro hi v hv hvl;have J:=qA hv;refine zS (R:=zBE) ?_;refine bS qP ?_;refine iC (λf=>?_) λf=>?_
 ·have C:=xN f;obtain⟨y,t⟩:=iA C;obtain⟨j,rfl,hj⟩:=r y (List.mem_of_getElem? t);obtain⟨x,b⟩:=iA (l:=us) (i:=j) hj;have Q:=K x (List.mem_of_getElem? b);obtain⟨_,rfl,_,_,rfl,⟨s1,rfl,hs1⟩,sh,_,rfl,B,rfl⟩:=zO hu b;have z:=qA B;have Q:1<=sh.es.length/\sh.es.length<=3:=Q;obtain⟨w,G,W,F⟩:=lO (E:=EE) (el:=3) (sz:=1) (bytes:=8) hv (mo B) (by decide) (by omega);have Z:=qA F;refine bS (qV (s:=((i:Nat):Int)) (by omega) t) ?_;refine bS (jJ (s:=((i:Nat):Int)) A (by omega) t rfl) ?_;refine bS (qB (off:=1) rfl q.one) ?_;refine bS (qV (s:=((j:Nat):Int)) (by omega) b) ?_;refine bS (jD (s:=((j:Nat):Int)) (off:=1) q (by omega) b rfl z.one (by decide)) ?_;refine bS G ?_;refine bS (d:=dI ((i+1:Nat):Int)) (qY (qN (by omega))) ?_;exact qQ rfl (X C (by omega) w F (by omega))
 refine bS (qI J) ?_;refine bS zW ?_;refine iC (λg=>?_) λg=>?_
 ·exact qR rfl ⟨.nil,0,5,rfl,xR⟩
 exact qR rfl ⟨v,0,0,rfl,hv⟩
end Go.Proofs.YtpbmnkajhedaiaaGreat
