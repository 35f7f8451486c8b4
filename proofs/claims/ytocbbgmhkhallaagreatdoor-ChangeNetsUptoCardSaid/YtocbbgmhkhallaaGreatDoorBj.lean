/- Units of a text. Conditions: none. -/
import Derived.Test.YtocbbgmhkhallaaGreatDoorBg
import Derived.Test.YtocbbgmhkhallaaGreatDoorBb
import Derived.Test.YtocbbgmhkhallaaGreatDoorMo
set_option linter.unusedVariables false
set_option linter.unusedSimpArgs false
namespace Go.Proofs.YtocbbgmhkhallaaGreatDoor
open Go Go.Am Go.Proofs Go.Am.Tt
abbrev gy:=@List.mem_iff_getElem?
theorem qQn{l:LR}{t:Int}(h:l.length+1<=300000000):TOp.eval EE (.app 3 1 8) [jI 3 1 l,.sl 3 1 [dI t]]=some (jI 3 1 (l++[dI t])):=
 qJR (B:=300000000) (e:=.int .i64) (mP (show 1<=300000000 by decide) λx y=>by rw[aw.1 y];exact⟨t,rfl⟩) (by decide) h
attribute [local irreducible] Go.Am.wp Go.Am.TOp.eval
theorem zAP(m n:Int):∃q:Int,TOp.eval EE (.mm true) [dI m,dI n]=some (dI q)/\(q=m∨q=n):=by refine⟨if m<n then n else m,?_,by split<;>simp⟩;rw[qPN];rfl
theorem zAR(m n:Int):∃q:Int,TOp.eval EE (.mm false) [dI m,dI n]=some (dI q)/\q<=m/\q<=n/\(q=m∨q=n):=by refine⟨if n<m then n else m,?_,by split<;>omega,by split<;>omega,by split<;>simp⟩;rw[qPN];rfl
theorem qVT{s:LJ}{a b:Nat}(x:a<=b)(h:b<=s.size):TOp.eval EE (.sub true true) [.leaf (.string s),dI ((a:Nat):Int),dI ((b:Nat):Int)]=some (.leaf (.string (s.extract a b))):=by rw[qC3];have c:vT true 0 [dI ((a:Nat):Int),dI ((b:Nat):Int)]=some (a,[dI ((b:Nat):Int)]):=rfl;have y:vT true s.size [dI ((b:Nat):Int)]=some (b,[]):=rfl;simp only[c,y,bL x,bL h,cj,ai]
theorem zGv{t:LN}{x y:LM}{p:Nat}(h:p<1000000000):TOp.eval EE (.bin .sub t x y) [dI ((p+1:Nat):Int),dI 1]=some (dI ((p:Nat):Int)):=by
 have:((p+1:Nat):Int)-1=((p:Nat):Int):=by omega
 rw[←this];exact eD (by omega)
abbrev zEP(N:Nat)(ls:List D):Prop:=∀y∈ls,∃j:Nat,y=dI ((j:Nat):Int)/\j<N
abbrev qM7(N M:Nat)(d:D):Prop:=∃(ls:List D) (k:Int),d=.gd [jI 3 1 ls,dI k]/\ls.length<=M/\zEP N ls
variable{tx:LJ}
theorem zHm{nm us lt:D}(W:qF 300000000 .str nm)(hu:qF 300000000 qM6 us)(Z:qF 300000000 qQv lt)(ht:tx.size<=25165824):∃(e:LR) (k:Int),HC EE 71 [.agg [nm,us,lt],.leaf (.string tx)] (.gd [jI 3 1 e,dI k])/\e.length<=25165824/\zEP us.es.length e:=by
 have g:=qC hu;have O:=qR hu;have N:=qC Z;obtain⟨t,rfl,V⟩:=W;suffices h:∃d,qM7 us.es.length 25165824 d/\qP EE (HC EE) sX 0 [.agg [.leaf (.string t),us,lt],.leaf (.string tx)] d by obtain⟨_,⟨e,k,rfl,z,w⟩,J⟩:=h;exact⟨e,k,zHO rfl J,z,w⟩
 have U:∀(n:Int),0<=n->n<=300000000->∀m at_ (e:LR),at_<=tx.size->tx.size<=at_+m->e.length<=at_->zEP us.es.length e->
   ∃d,qM7 us.es.length 25165824 d/\qP EE (HC EE) sX 2 [.leaf (.string tx),dI n,jI 3 1 e,dI ((at_:Nat):Int),.agg [.leaf (.string t),us,lt]] d:=by
  intro n n0 n1 m
  induction m with
  | zero=>
   intro a e z w h3 u
   have K:qF 300000000 nS (jI 3 1 e):=eM (by omega) (λy r=>by obtain⟨j,rfl,_⟩:=u y r;exact⟨_,rfl⟩)
   have E:=qC K
   refine jF (R:=qM7 us.es.length 25165824) ?_
   refine bS cM ?_
   refine bS zN ?_
   refine iC (λc=>?_) λc=>?_
   ·have:=dT c
    omega
   exact zJ rfl ⟨e,_,rfl,by omega,u⟩
  | succ m C=>
   intro a e z w h3 u
   have K:qF 300000000 nS (jI 3 1 e):=eM (by omega) (λy r=>by obtain⟨j,rfl,_⟩:=u y r;exact⟨_,rfl⟩)
   have E:=qC K
   have S:∀p:Nat,p+a<=tx.size->∃d,qM7 us.es.length 25165824 d/\qP EE (HC EE) sX 3 [.leaf (.string tx),dI n,jI 3 1 e,dI ((a:Nat):Int),dI ((p:Nat):Int),.agg [.leaf (.string t),us,lt]] d:=by
    intro p
    induction p with
    | zero=>
     intro _
     refine jF (R:=qM7 us.es.length 25165824) ?_
     refine bS jS ?_
     refine iC (λc=>?_) λc=>?_
     ·have:=dT c
      omega
     exact zJ rfl ⟨e,_,rfl,by omega,u⟩
    | succ p B=>
     intro hp
     refine jF (R:=qM7 us.es.length 25165824) ?_
     refine bS jS ?_
     refine iC (λc=>?_) λc=>?_
     ·skip
      refine bS (qB (off:=1) rfl g.one) ?_
      refine bS (qO g) ?_
      refine zK rfl (vQ (P:=λi=>i<=us.es.length->∃d,qM7 us.es.length 25165824 d/\qP EE (HC EE) sX 4 [.leaf (.string tx),dI n,jI 3 1 e,dI ((a:Nat):Int),dI ((p+1:Nat):Int),us,dI ((us.es.length:Nat):Int),dI ((i:Nat):Int),.agg [.leaf (.string t),us,lt]] d) us.es.length (λi A=>?_) 0 (by omega))
      intro hi
      refine jF (R:=qM7 us.es.length 25165824) ?_
      refine bS zN ?_
      refine iC (λd=>?_) λd=>?_
      ·have o:=cB d
       obtain⟨x,l⟩:=qA4 o
       obtain⟨_,rfl,_,_,rfl,⟨s1,rfl,H⟩,sh,_,rfl,F,rfl⟩:=zG hu l
       have L:=qC F
       refine bS (vD (s:=((i:Nat):Int)) (by omega) l) ?_
       refine bS (xO (s:=((i:Nat):Int)) g (by omega) l rfl) ?_
       refine bS (qS rfl) ?_
       refine bS (qB (off:=0) rfl rfl) ?_
       refine bS (d:=dI (((a:Nat):Int)+((p+1:Nat):Int))) (kB (by omega)) ?_
       refine bS (d:=.leaf (.string (tx.extract a (a+(p+1))))) (qVT (a:=a) (b:=a+(p+1)) (by omega) (by omega)) ?_
       refine bS fL ?_
       refine iC (λf=>?_) λf=>?_
       ·skip
        refine bS (wB rfl) ?_
        refine bS (tU rfl) ?_
        refine bS (d:=jI 3 1 (e++[dI ((i:Nat):Int)])) (qQn (by omega)) ?_
        refine bS (d:=dI (((a:Nat):Int)+((p+1:Nat):Int))) (kB (by omega)) ?_
        refine zK rfl (C (a+(p+1)) (e++[dI ((i:Nat):Int)]) (by omega) (by omega) (by rw[bx];show _+1<=_;omega) (λy r=>?_))
        rcases bh.1 r with r|r
        ·exact u y r
        rw[aw]at r
        exact⟨i,r,o⟩
       refine bS (d:=dI ((i+1:Nat):Int)) (zF (zH (by omega))) ?_
       exact zK rfl (A o (by omega))
      refine bS (d:=dI ((p:Nat):Int)) (zGv (by omega)) ?_
      exact zK rfl (B (by omega))
     have:=dF c
     omega
   refine jF (R:=qM7 us.es.length 25165824) ?_
   refine bS cM ?_
   refine bS zN ?_
   refine iC (λc=>?_) λc=>?_
   ·have X:((a:Nat):Int)<(tx.size:Int):=dT c
    obtain⟨q,I,Q,q2,q3⟩:=zAR n ((tx.size:Int)-((a:Nat):Int))
    obtain⟨p,rfl⟩:∃p:Nat,q=((p:Nat):Int):=⟨q.toNat,by omega⟩
    refine bS cM ?_
    refine bS (d:=dI ((tx.size:Int)-((a:Nat):Int))) (eD (by omega)) ?_
    refine bS I ?_
    exact zK rfl (S p (by omega))
   exact zJ rfl ⟨e,_,rfl,by omega,u⟩
 refine jF (R:=qM7 us.es.length 25165824) ?_;refine bS (qS rfl) ?_;refine bS (qB (off:=1) rfl g.one) ?_;refine bS (qO g) ?_;refine zK rfl (vQ (P:=λi=>i<=us.es.length->∀n:Int,0<=n->n<=300000000->∃d,qM7 us.es.length 25165824 d/\qP EE (HC EE) sX 1 [.leaf (.string tx),dI n,us,dI ((us.es.length:Nat):Int),dI ((i:Nat):Int),.agg [.leaf (.string t),us,lt]] d) us.es.length (λi ih=>?_) 0 (by omega) 0 (by omega) (by omega));intro hi n z w;refine jF (R:=qM7 us.es.length 25165824) ?_;refine bS zN ?_;refine iC (λd=>?_) λd=>?_
 ·have o:=cB d;obtain⟨x,l⟩:=qA4 o;obtain⟨_,rfl,_,_,rfl,⟨s1,rfl,H⟩,sg,_,rfl,G,rfl⟩:=zG hu l;have M:=qC G;obtain⟨q,I,Q⟩:=zAP n (s1.size:Int);refine bS (vD (s:=((i:Nat):Int)) (by omega) l) ?_;refine bS (xO (s:=((i:Nat):Int)) g (by omega) l rfl) ?_;refine bS (qS rfl) ?_;refine bS (qB (off:=0) rfl rfl) ?_;refine bS cM ?_;refine bS I ?_;refine bS (d:=dI ((i+1:Nat):Int)) (zF (zH (by omega))) ?_;exact zK rfl (ih o (by omega) q (by omega) (by omega))
 exact zK rfl (U n z w tx.size 0 [] (by omega) (by omega) (by simp) (λy r=>by cases r))
abbrev zCh(d:D):Prop:=∃(v:D) (p e:Int),d=.gd [v,dI p,dI e]/\qF 300000000 nS v
theorem zHp{nm us lt:D}(S:qF 1048576 .str nm)(hu:qF 1048576 qM6 us)(U:qF 1048576 qQv lt)(K:∀x∈us.es,qLZ x)(ht:tx.size<=25165824):∃(v:D) (p e:Int),HC EE 37 [.agg [nm,us,lt],.leaf (.string tx)] (.gd [v,dI p,dI e])/\qF 300000000 nS v:=by
 have mo:∀{s:Sh} {d:D},qF 1048576 s d->qF 300000000 s d:=λh=>nV (by decide) h;obtain⟨H,k,I,N,r⟩:=zHm (mo S) (mo hu) (mo U) ht;have q:=qC hu;have V:=qR hu;have O:=qC U;obtain⟨u,rfl,hns⟩:=S;have ho:qF 300000000 nS (jI 3 1 H):=eM (by omega) (λy Z=>by obtain⟨j,rfl,_⟩:=r y Z;exact⟨_,rfl⟩);have L:(jI 3 1 H).es=H:=qCw;generalize jI 3 1 H=o at *;rw[←L]at N r;have A:=qC ho;suffices h:∃d,zCh d/\qP EE (HC EE) qEc 0 [.agg [.leaf (.string u),us,lt],.leaf (.string tx)] d by obtain⟨_,⟨v,p,e,rfl,h1⟩,M⟩:=h;exact⟨v,p,e,zHP rfl M,h1⟩
 refine jF (R:=zCh) ?_;refine bS (qS rfl) ?_;refine bS fL ?_;refine iC (λc=>?_) λc=>?_
 ·exact zJ rfl ⟨.nil,0,4,rfl,yR⟩
 refine cS I ?_;refine bS (kM rfl) ?_;refine bS (kM rfl) ?_;refine bS cM ?_;refine bS zN ?_;refine iC (λd=>?_) λd=>?_
 ·exact zJ rfl ⟨.nil,k,20,rfl,yR⟩
 refine bS (qO A) ?_;refine zK rfl (vQ (P:=λi=>i<=o.es.length->∀v:D,qF 300000000 nS v->v.es.length<=3*i->∃d,zCh d/\qP EE (HC EE) qEc 1 [v,o,dI ((o.es.length:Nat):Int),dI ((i:Nat):Int),.agg [.leaf (.string u),us,lt]] d) o.es.length (λi ih=>?_) 0 (by omega) .nil yR (by simp[D.es]));intro hi v hv hvl;have J:=qC hv;refine jF (R:=zCh) ?_;refine bS zN ?_;refine iC (λf=>?_) λf=>?_
 ·have C:=cB f;obtain⟨y,t⟩:=qA4 C;obtain⟨j,rfl,hj⟩:=r y (be t);obtain⟨x,b⟩:=qA4 (l:=us) (i:=j) hj;have Q:=K x (be b);obtain⟨_,rfl,_,_,rfl,⟨s1,rfl,hs1⟩,sh,_,rfl,B,rfl⟩:=zG hu b;have z:=qC B;have Q:1<=sh.es.length/\sh.es.length<=3:=Q;obtain⟨w,G,W,F⟩:=pM (E:=EE) (el:=3) (sz:=1) (bytes:=8) hv (mo B) (by decide) (by omega);have X:=qC F;refine bS (vD (s:=((i:Nat):Int)) (by omega) t) ?_;refine bS (vX (s:=((i:Nat):Int)) A (by omega) t rfl) ?_;refine bS (qB (off:=1) rfl q.one) ?_;refine bS (vD (s:=((j:Nat):Int)) (by omega) b) ?_;refine bS (oO (s:=((j:Nat):Int)) (off:=1) q (by omega) b rfl z.one (by decide)) ?_;refine bS G ?_;refine bS (d:=dI ((i+1:Nat):Int)) (zF (zH (by omega))) ?_;exact zK rfl (ih C (by omega) w F (by omega))
 refine bS (qO J) ?_;refine bS jS ?_;refine iC (λg=>?_) λg=>?_
 ·exact zJ rfl ⟨.nil,0,5,rfl,yR⟩
 exact zJ rfl ⟨v,0,0,rfl,hv⟩
end Go.Proofs.YtocbbgmhkhallaaGreatDoor
namespace Go.Proofs.YtocbbgmhkhallaaGreatDoor.Ht
open Go Go.Am Go.Proofs Go.Am.Tt
def n0:Sn:=(.st [(.sl 85 2 1048576 (.st [(.str 1048576),(.int .i64)]))])
def n1:Sn:=(.ptr [(.sl 85 2 1048576 (.st [(.str 1048576),(.int .i64)]))])
def n2:Sn:=(.sl 3 1 BG (.int .i64))
def n3:Sn:=(.kr 115 [] [(.ptr [(.sl 85 2 1048576 (.st [(.str 1048576),(.int .i64)]))])])
def n4:Sn:=(.sl 3 1 1048576 (.int .i64))
def n5:Sn:=(.sl 60 6 1048576 (.wh (.st [(.sl 3 1 1048576 (.int .i64)),(.sl 3 1 1048576 (.int .i64)),(.sl 65 2 1048576 (.st [(.int .i64),(.int .i64)])),(.sl 65 2 1048576 (.st [(.int .i64),(.int .i64)])),.bool,.bool]) [(.aT [0,0],.aT [0,1],0),(.aT [0,1],.aT [0,0],0)]))
def n6:Sn:=(.sl 85 2 1048576 (.st [(.str 1048576),(.int .i64)]))
def n7:Sn:=(.sl 81 2 1048576 (.wh (.st [(.str 1048576),(.sl 3 1 1048576 (.int .i64))]) [(.z,.aT [0,1],-1),(.aT [0,1],.z,3)]))
def n8:Sn:=(.sl 37 1 1048576 (.sl 9 1 1048576 (.str 1048576)))
def n9:Sn:=(.sl 55 3 1048576 (.wh (.st [(.int .i64),(.int .i64),(.int .i64)]) [(.z,.aT [0,0],0),(.z,.aT [0,2],0)]))
def n10:Sn:=(.sl 3 1 1048576 (.wh (.int .i64) [(.z,aA 0,0)]))
def pG:Sn:=(.sl 71 8 1048576 (.st [(.int .i64),(.sl 3 1 1048576 (.int .i64)),(.int .i64),(.sl 31 1 1048576 (.sl 3 1 1048576 (.int .i64))),(.int .i64),(.sl 105 2 1048576 (.st [(.str 1048576),(.str 1048576)])),(.sl 73 2 1048576 (.st [(.int .i64),(.int .i64)])),(.sl 163 2 1048576 (.st [(.int .i64),(.int .i64)]))]))
def bN:Sn:=(.mp none .bool)
def n13:Sn:=(.st [(.sl 85 2 1048576 (.st [(.str 1048576),(.int .i64)])),(.str 1048576),(.sl 81 2 1048576 (.wh (.st [(.str 1048576),(.sl 3 1 1048576 (.int .i64))]) [(.z,.aT [0,1],-1),(.aT [0,1],.z,3)])),(.sl 37 1 1048576 (.sl 9 1 1048576 (.str 1048576))),(.sl 60 6 1048576 (.wh (.st [(.sl 3 1 1048576 (.int .i64)),(.sl 3 1 1048576 (.int .i64)),(.sl 65 2 1048576 (.st [(.int .i64),(.int .i64)])),(.sl 65 2 1048576 (.st [(.int .i64),(.int .i64)])),.bool,.bool]) [(.aT [0,0],.aT [0,1],0),(.aT [0,1],.aT [0,0],0)])),(.int .i64),(.sl 55 3 1048576 (.wh (.st [(.int .i64),(.int .i64),(.int .i64)]) [(.z,.aT [0,0],0),(.z,.aT [0,2],0)])),(.sl 3 1 1048576 (.wh (.int .i64) [(.z,aA 0,0)])),(.sl 71 8 1048576 (.st [(.int .i64),(.sl 3 1 1048576 (.int .i64)),(.int .i64),(.sl 31 1 1048576 (.sl 3 1 1048576 (.int .i64))),(.int .i64),(.sl 105 2 1048576 (.st [(.str 1048576),(.str 1048576)])),(.sl 73 2 1048576 (.st [(.int .i64),(.int .i64)])),(.sl 163 2 1048576 (.st [(.int .i64),(.int .i64)]))]))])
def wH:Sn:=(.sl 95 1 200 (.st [(.sl 127 3 1048576 (.st [(.int .i64),(.int .i64),(.int .i64)]))]))
def qKv:Sn:=(.st [(.int .i64),(.sl 3 1 1048576 (.int .i64)),(.int .i64),(.sl 31 1 1048576 (.sl 3 1 1048576 (.int .i64))),(.int .i64),(.sl 105 2 1048576 (.st [(.str 1048576),(.str 1048576)])),(.sl 73 2 1048576 (.st [(.int .i64),(.int .i64)])),(.sl 163 2 1048576 (.st [(.int .i64),(.int .i64)]))])
def qRz:Sn:=(.sl 31 1 BG (.sl 3 1 1048576 (.int .i64)))
def zDe:Sn:=(.st [(.int .i64),(.int .i64),(.int .i64)])
def nN:Sn:=(.sl 127 3 1048576 (.st [(.int .i64),(.int .i64),(.int .i64)]))
def zFs:Sn:=(.kr 118 [] [])
def zAO:Sn:=(.st [(.sl 127 3 1048576 (.st [(.int .i64),(.int .i64),(.int .i64)]))])
def zB7:Sn:=(.sl 127 3 BG (.st [(.int .i64),(.int .i64),(.int .i64)]))
def qWN:Go.Am.Mode:=⟨⟨[⟨.pure,false⟩,⟨.pure,false⟩,⟨.pure,true⟩,⟨.pure,true⟩,⟨.pure,true⟩,⟨.pure,true⟩,⟨.pure,true⟩,⟨.pure,true⟩,⟨.pure,true⟩,⟨.pure,true⟩,⟨.pure,true⟩,⟨.pure,true⟩,⟨.pure,true⟩,⟨.pure,true⟩,⟨.fresh,true⟩,⟨.pure,false⟩,⟨.fresh,true⟩,⟨.pure,true⟩],[(0,.loc 0 0),(1,.v 0),(2,.v 1)],[some (.cells [.v 2,.v 3,.v 4,.v 5,.v 6,.v 7,.v 8,.v 9,.v 10,.v 11,.v 12,.v 13,.v 14,.fn (.func 76) [] [.loc 1 0,.loc 2 0]]),some (.whole (.v 15) 9),some (.cells [.fn (.func 73) [] [.loc 3 0,.loc 4 0]]),some (.cells [.v 16]),some (.cells [.v 17])],[]⟩,3,⟨[⟨.pure,false⟩,⟨.pure,true⟩,⟨.pure,true⟩,⟨.pure,true⟩,⟨.pure,true⟩,⟨.pure,true⟩,⟨.pure,true⟩,⟨.pure,true⟩,⟨.pure,true⟩,⟨.pure,true⟩,⟨.pure,true⟩,⟨.pure,true⟩,⟨.pure,true⟩,⟨.fresh,true⟩,⟨.pure,false⟩,⟨.fresh,true⟩,⟨.pure,true⟩],[(0,.v 0)],[some (.cells [.v 1,.v 2,.v 3,.v 4,.v 5,.v 6,.v 7,.v 8,.v 9,.v 10,.v 11,.v 12,.v 13,.fn (.func 76) [] [.loc 1 0,.loc 2 0]]),some (.whole (.v 14) 9),some (.cells [.fn (.func 73) [] [.loc 3 0,.loc 4 0]]),some (.cells [.v 15]),some (.cells [.v 16])],[]⟩⟩
def qWO:Go.Am.Mode:=⟨⟨[⟨.pure,false⟩,⟨.pure,true⟩,⟨.pure,true⟩,⟨.pure,true⟩,⟨.pure,true⟩,⟨.pure,true⟩,⟨.pure,true⟩,⟨.pure,true⟩,⟨.pure,true⟩,⟨.pure,true⟩,⟨.pure,true⟩,⟨.pure,true⟩,⟨.pure,true⟩,⟨.fresh,true⟩,⟨.pure,false⟩,⟨.fresh,true⟩,⟨.pure,true⟩],[(0,.loc 0 0),(1,.v 0)],[some (.cells [.v 1,.v 2,.v 3,.v 4,.v 5,.v 6,.v 7,.v 8,.v 9,.v 10,.v 11,.v 12,.v 13,.fn (.func 76) [] [.loc 1 0,.loc 2 0]]),some (.whole (.v 14) 9),some (.cells [.fn (.func 73) [] [.loc 3 0,.loc 4 0]]),some (.cells [.v 15]),some (.cells [.v 16])],[]⟩,2,⟨[⟨.pure,false⟩,⟨.pure,true⟩,⟨.pure,true⟩,⟨.pure,true⟩,⟨.pure,true⟩,⟨.pure,true⟩,⟨.pure,true⟩,⟨.pure,true⟩,⟨.pure,true⟩,⟨.pure,true⟩,⟨.pure,true⟩,⟨.pure,true⟩,⟨.pure,true⟩,⟨.fresh,true⟩,⟨.pure,false⟩,⟨.fresh,true⟩,⟨.pure,true⟩],[(0,.v 0)],[some (.cells [.v 1,.v 2,.v 3,.v 4,.v 5,.v 6,.v 7,.v 8,.v 9,.v 10,.v 11,.v 12,.v 13,.fn (.func 76) [] [.loc 1 0,.loc 2 0]]),some (.whole (.v 14) 9),some (.cells [.fn (.func 73) [] [.loc 3 0,.loc 4 0]]),some (.cells [.v 15]),some (.cells [.v 16])],[]⟩⟩
def zA0:Go.Am.Mode:=⟨⟨[⟨.pure,false⟩,⟨.fresh,true⟩,⟨.pure,true⟩],[(0,.v 0),(1,.loc 0 0),(2,.loc 1 0)],[some (.cells [.v 1]),some (.cells [.v 2])],[]⟩,3,⟨[⟨.pure,false⟩,⟨.fresh,true⟩,⟨.pure,true⟩],[(0,.v 0)],[some (.cells [.v 1]),some (.cells [.v 2])],[]⟩⟩
def lU:Go.Am.Mode:=⟨⟨[⟨.pure,false⟩,⟨.pure,false⟩,⟨.pure,false⟩,⟨.fresh,true⟩,⟨.pure,true⟩],[(0,.v 0),(1,.v 1),(2,.v 2),(3,.fn (.func 73) [] [.loc 0 0,.loc 1 0])],[some (.cells [.v 3]),some (.cells [.v 4])],[]⟩,4,⟨[⟨.pure,false⟩,⟨.fresh,true⟩,⟨.pure,true⟩],[(0,.v 0)],[some (.cells [.v 1]),some (.cells [.v 2])],[]⟩⟩
def qKz:Go.Am.Mode:=⟨⟨[⟨.pure,false⟩,⟨.pure,false⟩,⟨.pure,false⟩,⟨.fresh,true⟩,⟨.pure,true⟩],[(0,.v 0),(1,.v 1),(2,.loc 0 0),(3,.loc 1 0)],[some (.whole (.v 2) 9),some (.cells [.fn (.func 73) [] [.loc 2 0,.loc 3 0]]),some (.cells [.v 3]),some (.cells [.v 4])],[]⟩,4,⟨[⟨.pure,false⟩,⟨.pure,false⟩,⟨.fresh,true⟩,⟨.pure,true⟩],[(0,.v 0)],[some (.whole (.v 1) 9),some (.cells [.fn (.func 73) [] [.loc 2 0,.loc 3 0]]),some (.cells [.v 2]),some (.cells [.v 3])],[]⟩⟩
def qAm:Go.Am.Mode:=⟨⟨[⟨.pure,false⟩,⟨.pure,false⟩,⟨.pure,false⟩,⟨.pure,true⟩,⟨.pure,true⟩,⟨.pure,true⟩,⟨.pure,true⟩,⟨.pure,true⟩,⟨.pure,true⟩,⟨.pure,true⟩,⟨.pure,true⟩,⟨.pure,true⟩,⟨.pure,true⟩,⟨.pure,true⟩,⟨.pure,true⟩,⟨.fresh,true⟩,⟨.pure,false⟩,⟨.fresh,true⟩,⟨.pure,true⟩],[(0,.loc 0 0),(1,.v 0),(2,.v 1),(3,.v 2)],[some (.cells [.v 3,.v 4,.v 5,.v 6,.v 7,.v 8,.v 9,.v 10,.v 11,.v 12,.v 13,.v 14,.v 15,.fn (.func 76) [] [.loc 1 0,.loc 2 0]]),some (.whole (.v 16) 9),some (.cells [.fn (.func 73) [] [.loc 3 0,.loc 4 0]]),some (.cells [.v 17]),some (.cells [.v 18])],[]⟩,4,⟨[⟨.pure,false⟩,⟨.pure,true⟩,⟨.pure,true⟩,⟨.pure,true⟩,⟨.pure,true⟩,⟨.pure,true⟩,⟨.pure,true⟩,⟨.pure,true⟩,⟨.pure,true⟩,⟨.pure,true⟩,⟨.pure,true⟩,⟨.pure,true⟩,⟨.pure,true⟩,⟨.fresh,true⟩,⟨.pure,false⟩,⟨.fresh,true⟩,⟨.pure,true⟩],[(0,.v 0)],[some (.cells [.v 1,.v 2,.v 3,.v 4,.v 5,.v 6,.v 7,.v 8,.v 9,.v 10,.v 11,.v 12,.v 13,.fn (.func 76) [] [.loc 1 0,.loc 2 0]]),some (.whole (.v 14) 9),some (.cells [.fn (.func 73) [] [.loc 3 0,.loc 4 0]]),some (.cells [.v 15]),some (.cells [.v 16])],[]⟩⟩
def qCx:Go.Am.Mode:=⟨⟨[⟨.pure,false⟩,⟨.pure,false⟩,⟨.pure,false⟩,⟨.pure,false⟩,⟨.pure,true⟩,⟨.pure,true⟩,⟨.pure,true⟩,⟨.pure,true⟩,⟨.pure,true⟩,⟨.pure,true⟩,⟨.pure,true⟩,⟨.pure,true⟩,⟨.pure,true⟩,⟨.pure,true⟩,⟨.pure,true⟩,⟨.pure,true⟩,⟨.fresh,true⟩,⟨.pure,false⟩,⟨.fresh,true⟩,⟨.pure,true⟩],[(0,.loc 0 0),(1,.v 0),(2,.v 1),(3,.v 2),(4,.v 3)],[some (.cells [.v 4,.v 5,.v 6,.v 7,.v 8,.v 9,.v 10,.v 11,.v 12,.v 13,.v 14,.v 15,.v 16,.fn (.func 76) [] [.loc 1 0,.loc 2 0]]),some (.whole (.v 17) 9),some (.cells [.fn (.func 73) [] [.loc 3 0,.loc 4 0]]),some (.cells [.v 18]),some (.cells [.v 19])],[]⟩,5,⟨[⟨.pure,false⟩,⟨.pure,true⟩,⟨.pure,true⟩,⟨.pure,true⟩,⟨.pure,true⟩,⟨.pure,true⟩,⟨.pure,true⟩,⟨.pure,true⟩,⟨.pure,true⟩,⟨.pure,true⟩,⟨.pure,true⟩,⟨.pure,true⟩,⟨.pure,true⟩,⟨.fresh,true⟩,⟨.pure,false⟩,⟨.fresh,true⟩,⟨.pure,true⟩],[(0,.v 0)],[some (.cells [.v 1,.v 2,.v 3,.v 4,.v 5,.v 6,.v 7,.v 8,.v 9,.v 10,.v 11,.v 12,.v 13,.fn (.func 76) [] [.loc 1 0,.loc 2 0]]),some (.whole (.v 14) 9),some (.cells [.fn (.func 73) [] [.loc 3 0,.loc 4 0]]),some (.cells [.v 15]),some (.cells [.v 16])],[]⟩⟩
def zAZ:Go.Am.Mode:=⟨⟨[⟨.pure,false⟩,⟨.pure,false⟩,⟨.pure,false⟩,⟨.fresh,true⟩,⟨.pure,true⟩],[(0,.v 0),(1,.v 1),(2,.fn (.func 76) [] [.loc 0 0,.loc 1 0])],[some (.whole (.v 2) 9),some (.cells [.fn (.func 73) [] [.loc 2 0,.loc 3 0]]),some (.cells [.v 3]),some (.cells [.v 4])],[]⟩,3,⟨[⟨.pure,false⟩,⟨.fresh,true⟩,⟨.pure,true⟩],[],[some (.whole (.v 0) 9),some (.cells [.fn (.func 73) [] [.loc 2 0,.loc 3 0]]),some (.cells [.v 1]),some (.cells [.v 2])],[]⟩⟩
def qV1:List (Nat×Sn):=[(31,n4),(3,(.int .i64)),(95,zAO),(127,zDe)]
def qP5:List (LN×LN×IntKind×IntKind):=[]
def qOk:List (Bool×LN×Int):=[]
def qNZ:List (Nat×(Nat×LZ)):=[]
def zAQ:List (Nat×(Option IntKind×Sn)):=[(169,(none,.bool))]
theorem sF:∀x∈qP5,qMZ EE x:=qAO
theorem aO:∀x∈qOk,qMW EE x:=qAO
theorem aD:∀x∈qNZ,qIo EE x:=qAO
def TT:Tb:=zAv qV1 qP5 qOk qNZ zAQ
theorem uT:TbOk EE TT:=qFq sF aO aD (by kernel_rfl)
def qXZ:En:=⟨116,[],⟨[n0,(.int .i64)],[.bool],[],[]⟩,[],[sC 1001]⟩
def zEt:En:=⟨115,[],⟨[(.int .i64),n1],[.bool],[],[]⟩,[],[sC 1001]⟩
def p0:List (Nat×Pat):=[(1,⟨[⟨.pure,false⟩,⟨.pure,false⟩,⟨.pure,true⟩,⟨.pure,true⟩],[(0,.v 0),(1,.v 1),(7,.v 2),(8,.v 3)],[],[]⟩)]
def zEg:En:=⟨131,p0,⟨[n2,n3],[(.int .i64)],[],[(.z,aA 2,1),(aA 2,aA 0,-1)]⟩,[(1,⟨[n2,n3,(.int .i64),(.int .i64)],[(aA 2,aA 0,0),(aA 4,aA 2,0),(.z,aA 5,0)],[sC 999,cC 5,sC 1001]⟩)],[sC 1001,sC 0,sC 0]⟩
def zHt:En:=⟨95,[],⟨[n2,n3],[.bool],[],[]⟩,[],[sC 1001]⟩
def zHH:En:=⟨72,[],⟨[n0,n2],[(.int .i64)],[],[(.z,aA 2,0)]⟩,[],[sC 1001]⟩
def p1:List (Nat×Pat):=[(1,⟨[⟨.pure,false⟩,⟨.pure,false⟩,⟨.pure,true⟩,⟨.pure,true⟩],[(1,.v 0),(7,.v 1),(8,.v 2),(9,.v 3)],[],[]⟩)]
def zEd:En:=⟨144,p1,⟨[n4,(.int .i64)],[.bool],[],[]⟩,[(1,⟨[(.int .i64),n4,(.int .i64),(.int .i64)],[(aA 4,aA 3,0),(aA 4,aA 0,0),(.z,aA 5,0)],[sC 999,cC 5,sC 1001]⟩)],[sC 1001,sC 0,sC 0]⟩
def p2:List (Nat×Pat):=[(1,⟨[⟨.pure,false⟩,⟨.pure,true⟩,⟨.pure,true⟩],[(5,.v 0),(6,.v 1),(7,.v 2)],[],[]⟩)]
def zEq:En:=⟨119,p2,⟨[n5],[.bool],[],[]⟩,[(1,⟨[n5,(.int .i64),(.int .i64)],[(aA 2,aA 1,0),(.z,aA 3,0)],[sC 999,cC 3,sC 1001]⟩)],[sC 1001,sC 0,sC 0]⟩
def p3:List (Nat×Pat):=[(1,⟨[⟨.pure,false⟩,⟨.pure,false⟩,⟨.pure,true⟩,⟨.pure,true⟩,⟨.pure,true⟩,⟨.pure,true⟩,⟨.pure,true⟩,⟨.pure,true⟩,⟨.pure,true⟩,⟨.pure,true⟩,⟨.pure,true⟩,⟨.pure,true⟩,⟨.pure,true⟩,⟨.pure,true⟩,⟨.pure,true⟩,⟨.pure,true⟩,⟨.pure,true⟩,⟨.fresh,true⟩,⟨.pure,false⟩,⟨.fresh,true⟩,⟨.pure,true⟩],[(1,.v 0),(2,.v 1),(7,.v 2),(15,.v 3),(16,.v 4),(17,.v 5)],[some (.cells [.v 6,.v 7,.v 8,.v 9,.v 10,.v 11,.v 3,.v 12,.v 13,.v 14,.v 15,.v 16,.v 17,.fn (.func 76) [] [.loc 1 0,.loc 2 0]]),some (.whole (.v 18) 9),some (.cells [.fn (.func 73) [] [.loc 3 0,.loc 4 0]]),some (.cells [.v 19]),some (.cells [.v 20])],[]⟩)]
def zEb:EnM:=⟨146,qWN,p3,⟨[(.int .u32),(.int .i64),n6,(.str 1048576),n7,n8,n5,(.int .i64),n9,n10,pG,n2,.bool,(.int .u32),bN,n13,wH,.bool],[(.int .u32),n6,(.str 1048576),n7,n8,n5,(.int .i64),n9,n10,pG,n2,.bool,(.int .u32),bN,n13,wH,.bool],[],[(aA 19,aA 2,0),(aA 2,aA 19,0),(aA 20,aA 3,0),(aA 3,aA 20,0),(aA 21,aA 4,0),(aA 4,aA 21,0),(aA 22,aA 5,0),(aA 5,aA 22,0),(aA 23,aA 6,0),(aA 6,aA 23,0),(aA 25,aA 8,0),(aA 8,aA 25,0),(aA 26,aA 9,0),(aA 9,aA 26,0),(aA 27,aA 10,0),(aA 10,aA 27,0),(aA 28,aA 11,0),(aA 11,aA 28,0),(aA 33,aA 16,0),(aA 16,aA 33,0)]⟩,[(1,⟨[(.int .u32),(.int .i64),(.int .u32),n9,(.int .i64),(.int .i64),n6,(.str 1048576),n7,n8,n5,(.int .i64),n10,pG,n2,.bool,(.int .u32),bN,n13,wH,.bool],[(aA 22,aA 21,0),(aA 21,aA 22,0),(aA 22,aA 8,0),(aA 8,aA 22,0),(.z,aA 23,0),(aA 24,aA 2,0),(aA 2,aA 24,0),(aA 25,aA 3,0),(aA 3,aA 25,0),(aA 26,aA 4,0),(aA 4,aA 26,0),(aA 27,aA 5,0),(aA 5,aA 27,0),(aA 28,aA 6,0),(aA 6,aA 28,0),(aA 30,aA 9,0),(aA 9,aA 30,0),(aA 31,aA 10,0),(aA 10,aA 31,0),(aA 32,aA 11,0),(aA 11,aA 32,0),(aA 37,aA 16,0),(aA 16,aA 37,0)],[sC 999,cC 23,sC 1001]⟩)],[sC 1001,sC 0,sC 0]⟩
def zD2:En:=⟨171,[],⟨[qKv],[qRz],[],[(aA 1,.aT [0,3],1)]⟩,[],[sC 1001]⟩
def p4:List (Nat×Pat):=[(1,⟨[⟨.pure,false⟩,⟨.pure,false⟩,⟨.pure,true⟩,⟨.pure,true⟩],[(0,.v 0),(1,.v 1),(12,.v 2),(13,.v 3)],[],[]⟩)]
def zD3:En:=⟨170,p4,⟨[n2,n2],[.bool],[],[]⟩,[(1,⟨[n2,n2,(.int .i64),(.int .i64)],[(aA 4,aA 2,0),(aA 4,aA 3,0),(.z,aA 5,0)],[sC 999,cC 5,sC 1001]⟩)],[sC 1001,sC 0,sC 0]⟩
def zEc:EnM:=⟨145,qWO,[],⟨[n4,n6,(.str 1048576),n7,n8,n5,(.int .i64),n9,n10,pG,n2,.bool,(.int .u32),bN,n13,wH,.bool],[.bool,n6,(.str 1048576),n7,n8,n5,(.int .i64),n9,n10,pG,n2,.bool,(.int .u32),bN,n13,wH,.bool],[],[(aA 18,aA 1,0),(aA 1,aA 18,0),(aA 19,aA 2,0),(aA 2,aA 19,0),(aA 20,aA 3,0),(aA 3,aA 20,0),(aA 21,aA 4,0),(aA 4,aA 21,0),(aA 22,aA 5,0),(aA 5,aA 22,0),(aA 24,aA 7,0),(aA 7,aA 24,0),(aA 25,aA 8,0),(aA 8,aA 25,0),(aA 26,aA 9,0),(aA 9,aA 26,0),(aA 27,aA 10,0),(aA 10,aA 27,0),(aA 32,aA 15,0),(aA 15,aA 32,0)]⟩,[],[sC 1001]⟩
def zD4:En:=⟨167,[],⟨[(.int .i64)],[.bool],[],[]⟩,[],[sC 1001]⟩
def zEe:En:=⟨143,[],⟨[(.int .i64),(.int .i64)],[(.int .i64)],[],[(.z,aA 2,1)]⟩,[],[sC 1001]⟩
def p5:List (Nat×Pat):=[(1,⟨[⟨.pure,false⟩,⟨.pure,true⟩,⟨.pure,true⟩],[(3,.c (.int .i64 0)),(6,.v 0),(7,.v 1),(8,.v 2)],[],[]⟩)]
def zEf:En:=⟨142,p5,⟨[n4],[(.int .i64)],[],[]⟩,[(1,⟨[n4,(.int .i64),(.int .i64)],[(aA 1,aA 0,0),(aA 2,aA 1,0),(.z,aA 3,0)],[sC 999,cC 3,sC 1001]⟩)],[sC 1001,sC 0,sC 0]⟩
def zEr:En:=⟨118,[],⟨[zDe,zDe],[(.int .i64)],[],[]⟩,[],[sC 1001]⟩
def p6:List (Nat×Pat):=[(1,⟨[⟨.pure,false⟩,⟨.pure,false⟩,⟨.pure,false⟩,⟨.pure,true⟩,⟨.pure,true⟩],[(0,.v 0),(1,.v 1),(2,.v 2),(11,.v 0),(12,.v 3),(13,.v 4)],[],[]⟩)]
def zEs:En:=⟨117,p6,⟨[nN,nN,zFs],[(.int .i64)],[],[]⟩,[(1,⟨[nN,nN,zFs,(.int .i64),(.int .i64)],[(aA 6,aA 3,0),(.z,aA 7,0)],[sC 999,cC 7,sC 1001]⟩)],[sC 1001,sC 0,sC 0]⟩
def zHF:En:=⟨74,[],⟨[zAO,zAO],[.bool],[],[]⟩,[],[sC 1001]⟩
def p7:List (Nat×Pat):=[(1,⟨[⟨.pure,true⟩,⟨.fresh,true⟩,⟨.pure,true⟩,⟨.pure,false⟩],[(1,.loc 0 0),(3,.loc 2 0),(5,.v 0)],[some (.cells [.v 1]),some (.cells [.v 2]),some (.whole (.v 3) 1)],[]⟩)]
def zHG:EnM:=⟨73,zA0,p7,⟨[zAO,wH,.bool],[.bool,wH,.bool],[],[(aA 1,aA 4,0)]⟩,[(1,⟨[(.int .i64),wH,.bool,zAO],[(.z,aA 3,0),(aA 3,aA 4,0),(aA 1,aA 4,0),(aA 4,.z,199)],[sC 999,(aA 3,.z,0),sC 1001]⟩)],[sC 1001,sC 0,sC 0]⟩
def p8:List (Nat×Pat):=[(1,⟨[⟨.pure,false⟩,⟨.pure,false⟩,⟨.pure,true⟩,⟨.pure,true⟩,⟨.fresh,true⟩,⟨.pure,true⟩,⟨.pure,false⟩],[(1,.v 0),(2,.v 1),(3,.fn (.func 73) [] [.loc 0 0,.loc 1 0]),(4,.loc 2 0),(29,.v 2),(30,.v 3)],[some (.cells [.v 4]),some (.cells [.v 5]),some (.whole (.v 6) 9)],[]⟩)]
def zHC:EnM:=⟨77,lU,p8,⟨[n13,nN,(.int .i64),wH,.bool],[.bool,wH,.bool],[(aA 1,.z,1),(.z,aA 2,-1),(aA 2,aA 1,0)],[(aA 3,aA 6,0)]⟩,[],[sC 1001]⟩
def zBF:EnM:=⟨77,lU,p8,⟨[n13,nN,(.int .i64),wH,.bool],[.bool,wH,.bool],[(aA 1,.z,1),(.z,aA 2,0),(aA 2,aA 1,-1),(aA 2,aA 3,0)],[(aA 3,aA 6,0)]⟩,[(1,⟨[nN,(.int .i64),(.int .i64),(.int .i64),wH,.bool,n13],[(.z,aA 5,-1),(aA 5,aA 6,1),(aA 6,aA 1,-1),(aA 7,.z,300000000),(aA 5,aA 8,1),(aA 3,aA 9,0)],[sC 999,cC 8,sC 1001]⟩)],[sC 1001,sC 0,sC 0]⟩
def zHD:EnM:=⟨76,qKz,[],⟨[nN,n4,n13,wH,.bool],[.bool,n13,wH,.bool],[(aA 0,.z,1),(.z,aA 0,-1)],[(aA 3,aA 7,0)]⟩,[],[sC 1001]⟩
def zBE:EnM:=⟨77,lU,p8,⟨[n13,nN,(.int .i64),wH,.bool],[.bool,wH,.bool],[(aA 1,.z,2),(.z,aA 2,-2),(aA 2,aA 1,0)],[(aA 3,aA 6,0)]⟩,[],[sC 1001]⟩
def zBD:EnM:=⟨77,lU,p8,⟨[n13,nN,(.int .i64),wH,.bool],[.bool,wH,.bool],[(aA 1,.z,2),(.z,aA 2,-1),(aA 2,aA 1,-1)],[(aA 3,aA 6,0)]⟩,[(1,⟨[nN,(.int .i64),(.int .i64),(.int .i64),wH,.bool,n13],[(aA 6,aA 5,-1),(aA 5,aA 6,1),(.z,aA 6,-1),(aA 6,.z,1),(aA 7,.z,300000000),(.z,aA 8,0),(aA 3,aA 9,0)],[sC 999,cC 8,sC 1001]⟩)],[sC 1001,sC 0,sC 0]⟩
def zBC:EnM:=⟨77,lU,p8,⟨[n13,nN,(.int .i64),wH,.bool],[.bool,wH,.bool],[(aA 1,.z,2),(.z,aA 1,-2),(aA 2,.z,0),(.z,aA 2,0),(aA 2,aA 3,0)],[(aA 3,aA 6,0)]⟩,[(1,⟨[nN,(.int .i64),(.int .i64),(.int .i64),wH,.bool,n13],[(aA 5,aA 1,0),(aA 1,aA 5,0),(.z,aA 6,0),(aA 6,.z,0),(aA 7,.z,300000000),(.z,aA 8,0),(aA 3,aA 9,0)],[sC 999,cC 8,sC 1001]⟩)],[sC 1001,sC 0,sC 0]⟩
def zBI:EnM:=⟨76,qKz,[],⟨[nN,n4,n13,wH,.bool],[.bool,n13,wH,.bool],[(aA 0,.z,2),(.z,aA 0,-2)],[(aA 3,aA 7,0)]⟩,[],[sC 1001]⟩
def zBB:EnM:=⟨77,lU,p8,⟨[n13,nN,(.int .i64),wH,.bool],[.bool,wH,.bool],[(aA 1,.z,3),(.z,aA 2,-3),(aA 2,aA 1,0)],[(aA 3,aA 6,0)]⟩,[],[sC 1001]⟩
def zBA:EnM:=⟨77,lU,p8,⟨[n13,nN,(.int .i64),wH,.bool],[.bool,wH,.bool],[(aA 1,.z,3),(.z,aA 2,-2),(aA 2,aA 1,-1)],[(aA 3,aA 6,0)]⟩,[(1,⟨[nN,(.int .i64),(.int .i64),(.int .i64),wH,.bool,n13],[(aA 6,aA 5,-1),(aA 5,aA 6,1),(aA 6,aA 2,0),(aA 2,aA 6,0),(aA 7,.z,300000000),(.z,aA 8,0),(aA 3,aA 9,0)],[sC 999,cC 8,sC 1001]⟩)],[sC 1001,sC 0,sC 0]⟩
def zBz:EnM:=⟨77,lU,p8,⟨[n13,nN,(.int .i64),wH,.bool],[.bool,wH,.bool],[(aA 1,.z,3),(.z,aA 1,-3),(aA 2,.z,1),(.z,aA 2,-1)],[(aA 3,aA 6,0)]⟩,[(1,⟨[nN,(.int .i64),(.int .i64),(.int .i64),wH,.bool,n13],[(aA 5,aA 1,0),(aA 1,aA 5,0),(.z,aA 6,-1),(aA 6,.z,1),(aA 7,.z,300000000),(.z,aA 8,0),(aA 3,aA 9,0)],[sC 999,cC 8,sC 1001]⟩)],[sC 1001,sC 0,sC 0]⟩
def zBy:EnM:=⟨77,lU,p8,⟨[n13,nN,(.int .i64),wH,.bool],[.bool,wH,.bool],[(aA 1,.z,3),(.z,aA 1,-3),(aA 2,.z,0),(.z,aA 2,0),(aA 2,aA 3,0)],[(aA 3,aA 6,0)]⟩,[(1,⟨[nN,(.int .i64),(.int .i64),(.int .i64),wH,.bool,n13],[(aA 5,aA 1,0),(aA 1,aA 5,0),(.z,aA 6,0),(aA 6,.z,0),(aA 7,.z,300000000),(.z,aA 8,0),(aA 3,aA 9,0)],[sC 999,cC 8,sC 1001]⟩)],[sC 1001,sC 0,sC 0]⟩
def zBH:EnM:=⟨76,qKz,[],⟨[nN,n4,n13,wH,.bool],[.bool,n13,wH,.bool],[(aA 0,.z,3),(.z,aA 0,-3)],[(aA 3,aA 7,0)]⟩,[],[sC 1001]⟩
def zBx:EnM:=⟨77,lU,p8,⟨[n13,nN,(.int .i64),wH,.bool],[.bool,wH,.bool],[(aA 1,.z,4),(.z,aA 2,-4),(aA 2,aA 1,0)],[(aA 3,aA 6,0)]⟩,[],[sC 1001]⟩
def qXP:EnM:=⟨77,lU,p8,⟨[n13,nN,(.int .i64),wH,.bool],[.bool,wH,.bool],[(aA 1,.z,4),(.z,aA 2,-3),(aA 2,aA 1,-1)],[(aA 3,aA 6,0)]⟩,[(1,⟨[nN,(.int .i64),(.int .i64),(.int .i64),wH,.bool,n13],[(aA 6,aA 5,-1),(aA 5,aA 6,1),(aA 6,aA 2,0),(aA 2,aA 6,0),(aA 7,.z,300000000),(.z,aA 8,0),(aA 3,aA 9,0)],[sC 999,cC 8,sC 1001]⟩)],[sC 1001,sC 0,sC 0]⟩
def qXO:EnM:=⟨77,lU,p8,⟨[n13,nN,(.int .i64),wH,.bool],[.bool,wH,.bool],[(aA 1,.z,4),(.z,aA 1,-4),(aA 2,.z,2),(.z,aA 2,-2)],[(aA 3,aA 6,0)]⟩,[(1,⟨[nN,(.int .i64),(.int .i64),(.int .i64),wH,.bool,n13],[(aA 1,aA 5,0),(aA 5,.z,4),(aA 6,aA 2,0),(aA 2,aA 6,0),(aA 7,.z,300000000),(.z,aA 8,0),(aA 3,aA 9,0)],[sC 999,cC 8,sC 1001]⟩)],[sC 1001,sC 0,sC 0]⟩
def qXN:EnM:=⟨77,lU,p8,⟨[n13,nN,(.int .i64),wH,.bool],[.bool,wH,.bool],[(aA 1,.z,4),(.z,aA 1,-4),(aA 2,.z,1),(.z,aA 2,-1)],[(aA 3,aA 6,0)]⟩,[(1,⟨[nN,(.int .i64),(.int .i64),(.int .i64),wH,.bool,n13],[(aA 1,aA 5,0),(aA 5,.z,4),(.z,aA 6,-1),(aA 6,.z,1),(aA 7,.z,300000000),(.z,aA 8,0),(aA 3,aA 9,0)],[sC 999,cC 8,sC 1001]⟩)],[sC 1001,sC 0,sC 0]⟩
def qXM:EnM:=⟨77,lU,p8,⟨[n13,nN,(.int .i64),wH,.bool],[.bool,wH,.bool],[(aA 1,.z,4),(.z,aA 1,-4),(aA 2,.z,0),(.z,aA 2,0),(aA 2,aA 3,0)],[(aA 3,aA 6,0)]⟩,[(1,⟨[nN,(.int .i64),(.int .i64),(.int .i64),wH,.bool,n13],[(aA 1,aA 5,0),(aA 5,.z,4),(.z,aA 6,0),(aA 6,.z,0),(aA 7,.z,300000000),(.z,aA 8,0),(aA 3,aA 9,0)],[sC 999,cC 8,sC 1001]⟩)],[sC 1001,sC 0,sC 0]⟩
def zBG:EnM:=⟨76,qKz,[],⟨[nN,n4,n13,wH,.bool],[.bool,n13,wH,.bool],[(aA 0,.z,4),(.z,aA 0,-4)],[(aA 3,aA 7,0)]⟩,[],[sC 1001]⟩
def p9:List (Nat×Pat):=[(1,⟨[⟨.pure,false⟩,⟨.pure,false⟩,⟨.pure,false⟩,⟨.pure,true⟩,⟨.pure,true⟩,⟨.pure,true⟩,⟨.pure,true⟩,⟨.pure,true⟩,⟨.pure,true⟩,⟨.pure,true⟩,⟨.pure,true⟩,⟨.pure,true⟩,⟨.pure,true⟩,⟨.pure,true⟩,⟨.pure,true⟩,⟨.pure,true⟩,⟨.pure,true⟩,⟨.pure,true⟩,⟨.fresh,true⟩,⟨.pure,false⟩,⟨.fresh,true⟩,⟨.pure,true⟩],[(0,.loc 0 0),(1,.v 0),(2,.v 1),(3,.v 2),(56,.v 3),(57,.v 4),(58,.v 5)],[some (.cells [.v 6,.v 7,.v 8,.v 9,.v 10,.v 11,.v 12,.v 13,.v 14,.v 15,.v 16,.v 17,.v 18,.fn (.func 76) [] [.loc 1 0,.loc 2 0]]),some (.whole (.v 19) 9),some (.cells [.fn (.func 73) [] [.loc 3 0,.loc 4 0]]),some (.cells [.v 20]),some (.cells [.v 21])],[]⟩)]
def zEp:EnM:=⟨120,qAm,p9,⟨[nN,(.int .u32),n4,n6,(.str 1048576),n7,n8,n5,(.int .i64),n9,n10,pG,n2,.bool,(.int .u32),bN,n13,wH,.bool],[.bool,n6,(.str 1048576),n7,n8,n5,(.int .i64),n9,n10,pG,n2,.bool,(.int .u32),bN,n13,wH,.bool],[(aA 0,.z,4),(.z,aA 0,-4)],[(aA 20,aA 3,0),(aA 3,aA 20,0),(aA 21,aA 4,0),(aA 4,aA 21,0),(aA 22,aA 5,0),(aA 5,aA 22,0),(aA 23,aA 6,0),(aA 6,aA 23,0),(aA 24,aA 7,0),(aA 7,aA 24,0),(aA 26,aA 9,0),(aA 9,aA 26,0),(aA 27,aA 10,0),(aA 10,aA 27,0),(aA 28,aA 11,0),(aA 11,aA 28,0),(aA 29,aA 12,0),(aA 12,aA 29,0),(aA 17,aA 34,0)]⟩,[],[sC 1001]⟩
def qQH:List (Nat×Pat):=[(1,⟨[⟨.pure,false⟩,⟨.pure,false⟩,⟨.pure,false⟩,⟨.pure,false⟩,⟨.pure,true⟩,⟨.pure,true⟩,⟨.pure,true⟩,⟨.pure,true⟩,⟨.pure,true⟩,⟨.pure,true⟩,⟨.pure,true⟩,⟨.pure,true⟩,⟨.pure,true⟩,⟨.pure,true⟩,⟨.pure,true⟩,⟨.pure,true⟩,⟨.pure,true⟩,⟨.pure,true⟩,⟨.fresh,true⟩,⟨.pure,false⟩,⟨.fresh,true⟩,⟨.pure,true⟩,⟨.pure,false⟩],[(0,.loc 0 0),(2,.v 0),(3,.v 1),(4,.v 2),(6,.loc 5 0),(27,.v 3),(28,.v 4),(29,.v 5)],[some (.cells [.v 6,.v 7,.v 8,.v 9,.v 10,.v 11,.v 12,.v 13,.v 14,.v 15,.v 16,.v 17,.v 18,.fn (.func 76) [] [.loc 1 0,.loc 2 0]]),some (.whole (.v 19) 9),some (.cells [.fn (.func 73) [] [.loc 3 0,.loc 4 0]]),some (.cells [.v 20]),some (.cells [.v 21]),some (.whole (.v 22) 8)],[]⟩)]
def zEa:EnM:=⟨147,qCx,qQH,⟨[qKv,nN,(.int .u32),n4,n6,(.str 1048576),n7,n8,n5,(.int .i64),n9,n10,pG,n2,.bool,(.int .u32),bN,n13,wH,.bool],[.bool,n6,(.str 1048576),n7,n8,n5,(.int .i64),n9,n10,pG,n2,.bool,(.int .u32),bN,n13,wH,.bool],[(aA 1,.z,3),(.z,aA 1,-3),(aA 3,.z,48),(.z,aA 12,-1),(aA 13,.z,24),(.z,aA 13,-1)],[(aA 21,aA 4,0),(aA 4,aA 21,0),(aA 22,aA 5,0),(aA 5,aA 22,0),(aA 23,aA 6,0),(aA 6,aA 23,0),(aA 24,aA 7,0),(aA 7,aA 24,0),(aA 25,aA 8,0),(aA 8,aA 25,0),(aA 27,aA 10,0),(aA 10,aA 27,0),(aA 28,aA 11,0),(aA 11,aA 28,0),(aA 29,aA 12,0),(aA 12,aA 29,0),(aA 30,aA 13,0),(aA 13,aA 30,0),(aA 18,aA 35,0)]⟩,[(1,⟨[nN,(.int .u32),n4,qRz,(.int .i64),(.int .i64),n6,(.str 1048576),n7,n8,n5,(.int .i64),n9,n10,pG,n2,.bool,(.int .u32),bN,n13,wH,.bool,qKv],[(aA 20,aA 1,0),(aA 1,aA 20,0),(aA 24,aA 23,0),(.z,aA 25,0),(aA 26,aA 4,0),(aA 4,aA 26,0),(aA 27,aA 5,0),(aA 5,aA 27,0),(aA 28,aA 6,0),(aA 6,aA 28,0),(aA 29,aA 7,0),(aA 7,aA 29,0),(aA 30,aA 8,0),(aA 8,aA 30,0),(aA 32,aA 10,0),(aA 10,aA 32,0),(aA 33,aA 11,0),(aA 11,aA 33,0),(aA 34,aA 12,0),(aA 12,aA 34,0),(aA 35,aA 13,0),(aA 13,aA 35,0),(aA 18,aA 40,0)],[sC 999,cC 25,sC 1001]⟩)],[sC 1001,sC 0,sC 0]⟩
def qXY:EnM:=⟨120,qAm,p9,⟨[nN,(.int .u32),n4,n6,(.str 1048576),n7,n8,n5,(.int .i64),n9,n10,pG,n2,.bool,(.int .u32),bN,n13,wH,.bool],[.bool,n6,(.str 1048576),n7,n8,n5,(.int .i64),n9,n10,pG,n2,.bool,(.int .u32),bN,n13,wH,.bool],[(aA 0,.z,3),(.z,aA 0,-3),(aA 2,.z,48),(.z,aA 11,-1),(aA 12,.z,24),(.z,aA 12,-1)],[(aA 20,aA 3,0),(aA 3,aA 20,0),(aA 21,aA 4,0),(aA 4,aA 21,0),(aA 22,aA 5,0),(aA 5,aA 22,0),(aA 23,aA 6,0),(aA 6,aA 23,0),(aA 24,aA 7,0),(aA 7,aA 24,0),(aA 26,aA 9,0),(aA 9,aA 26,0),(aA 27,aA 10,0),(aA 10,aA 27,0),(aA 28,aA 11,0),(aA 11,aA 28,0),(aA 29,aA 12,0),(aA 12,aA 29,0),(aA 17,aA 34,0)]⟩,[(1,⟨[nN,(.int .u32),n4,pG,(.int .i64),(.int .i64),n6,(.str 1048576),n7,n8,n5,(.int .i64),n9,n10,pG,n2,.bool,(.int .u32),bN,n13,wH,.bool],[(aA 19,aA 0,0),(aA 0,aA 19,0),(aA 21,aA 2,0),(.z,aA 24,0),(aA 25,aA 3,0),(aA 3,aA 25,0),(aA 26,aA 4,0),(aA 4,aA 26,0),(aA 27,aA 5,0),(aA 5,aA 27,0),(aA 28,aA 6,0),(aA 6,aA 28,0),(aA 29,aA 7,0),(aA 7,aA 29,0),(aA 31,aA 9,0),(aA 9,aA 31,0),(aA 32,aA 10,0),(aA 10,aA 32,0),(aA 33,aA 22,0),(aA 23,aA 33,0),(aA 33,aA 11,0),(aA 11,aA 33,0),(aA 34,aA 12,0),(aA 12,aA 34,0),(aA 17,aA 39,0)],[sC 999,cC 24,sC 1001]⟩)],[sC 1001,sC 0,sC 0]⟩
def qXT:EnM:=⟨147,qCx,qQH,⟨[qKv,nN,(.int .u32),n4,n6,(.str 1048576),n7,n8,n5,(.int .i64),n9,n10,pG,n2,.bool,(.int .u32),bN,n13,wH,.bool],[.bool,n6,(.str 1048576),n7,n8,n5,(.int .i64),n9,n10,pG,n2,.bool,(.int .u32),bN,n13,wH,.bool],[(aA 1,.z,2),(.z,aA 1,-2),(aA 3,.z,48),(.z,aA 12,-1),(aA 13,.z,24),(.z,aA 13,-1)],[(aA 21,aA 4,0),(aA 4,aA 21,0),(aA 22,aA 5,0),(aA 5,aA 22,0),(aA 23,aA 6,0),(aA 6,aA 23,0),(aA 24,aA 7,0),(aA 7,aA 24,0),(aA 25,aA 8,0),(aA 8,aA 25,0),(aA 27,aA 10,0),(aA 10,aA 27,0),(aA 28,aA 11,0),(aA 11,aA 28,0),(aA 29,aA 12,0),(aA 12,aA 29,0),(aA 30,aA 13,0),(aA 13,aA 30,0),(aA 18,aA 35,0)]⟩,[(1,⟨[nN,(.int .u32),n4,qRz,(.int .i64),(.int .i64),n6,(.str 1048576),n7,n8,n5,(.int .i64),n9,n10,pG,n2,.bool,(.int .u32),bN,n13,wH,.bool,qKv],[(aA 20,aA 1,0),(aA 1,aA 20,0),(aA 24,aA 23,0),(.z,aA 25,0),(aA 26,aA 4,0),(aA 4,aA 26,0),(aA 27,aA 5,0),(aA 5,aA 27,0),(aA 28,aA 6,0),(aA 6,aA 28,0),(aA 29,aA 7,0),(aA 7,aA 29,0),(aA 30,aA 8,0),(aA 8,aA 30,0),(aA 32,aA 10,0),(aA 10,aA 32,0),(aA 33,aA 11,0),(aA 11,aA 33,0),(aA 34,aA 12,0),(aA 12,aA 34,0),(aA 35,aA 13,0),(aA 13,aA 35,0),(aA 18,aA 40,0)],[sC 999,cC 25,sC 1001]⟩)],[sC 1001,sC 0,sC 0]⟩
def qXX:EnM:=⟨120,qAm,p9,⟨[nN,(.int .u32),n4,n6,(.str 1048576),n7,n8,n5,(.int .i64),n9,n10,pG,n2,.bool,(.int .u32),bN,n13,wH,.bool],[.bool,n6,(.str 1048576),n7,n8,n5,(.int .i64),n9,n10,pG,n2,.bool,(.int .u32),bN,n13,wH,.bool],[(aA 0,.z,2),(.z,aA 0,-2),(aA 2,.z,48),(.z,aA 11,-1),(aA 12,.z,24),(.z,aA 12,-1)],[(aA 20,aA 3,0),(aA 3,aA 20,0),(aA 21,aA 4,0),(aA 4,aA 21,0),(aA 22,aA 5,0),(aA 5,aA 22,0),(aA 23,aA 6,0),(aA 6,aA 23,0),(aA 24,aA 7,0),(aA 7,aA 24,0),(aA 26,aA 9,0),(aA 9,aA 26,0),(aA 27,aA 10,0),(aA 10,aA 27,0),(aA 28,aA 11,0),(aA 11,aA 28,0),(aA 29,aA 12,0),(aA 12,aA 29,0),(aA 17,aA 34,0)]⟩,[(1,⟨[nN,(.int .u32),n4,pG,(.int .i64),(.int .i64),n6,(.str 1048576),n7,n8,n5,(.int .i64),n9,n10,pG,n2,.bool,(.int .u32),bN,n13,wH,.bool],[(aA 19,aA 0,0),(aA 0,aA 19,0),(aA 21,aA 2,0),(.z,aA 24,0),(aA 25,aA 3,0),(aA 3,aA 25,0),(aA 26,aA 4,0),(aA 4,aA 26,0),(aA 27,aA 5,0),(aA 5,aA 27,0),(aA 28,aA 6,0),(aA 6,aA 28,0),(aA 29,aA 7,0),(aA 7,aA 29,0),(aA 31,aA 9,0),(aA 9,aA 31,0),(aA 32,aA 10,0),(aA 10,aA 32,0),(aA 33,aA 22,0),(aA 23,aA 33,0),(aA 33,aA 11,0),(aA 11,aA 33,0),(aA 34,aA 12,0),(aA 12,aA 34,0),(aA 17,aA 39,0)],[sC 999,cC 24,sC 1001]⟩)],[sC 1001,sC 0,sC 0]⟩
def qXS:EnM:=⟨147,qCx,qQH,⟨[qKv,nN,(.int .u32),n4,n6,(.str 1048576),n7,n8,n5,(.int .i64),n9,n10,pG,n2,.bool,(.int .u32),bN,n13,wH,.bool],[.bool,n6,(.str 1048576),n7,n8,n5,(.int .i64),n9,n10,pG,n2,.bool,(.int .u32),bN,n13,wH,.bool],[(aA 1,.z,1),(.z,aA 1,-1),(aA 13,.z,24),(aA 1,aA 12,0),(aA 1,aA 13,0),(aA 3,aA 13,0)],[(aA 21,aA 4,0),(aA 4,aA 21,0),(aA 22,aA 5,0),(aA 5,aA 22,0),(aA 23,aA 6,0),(aA 6,aA 23,0),(aA 24,aA 7,0),(aA 7,aA 24,0),(aA 25,aA 8,0),(aA 8,aA 25,0),(aA 27,aA 10,0),(aA 10,aA 27,0),(aA 28,aA 11,0),(aA 11,aA 28,0),(aA 29,aA 12,0),(aA 12,aA 29,0),(aA 30,aA 13,0),(aA 13,aA 30,0),(aA 18,aA 35,0)]⟩,[(1,⟨[nN,(.int .u32),n4,qRz,(.int .i64),(.int .i64),n6,(.str 1048576),n7,n8,n5,(.int .i64),n9,n10,pG,n2,.bool,(.int .u32),bN,n13,wH,.bool,qKv],[(aA 20,aA 1,0),(.z,aA 20,-1),(aA 23,.aT [0,3],1),(aA 24,aA 23,0),(.z,aA 25,0),(aA 26,aA 4,0),(aA 4,aA 26,0),(aA 27,aA 5,0),(aA 5,aA 27,0),(aA 28,aA 6,0),(aA 6,aA 28,0),(aA 29,aA 7,0),(aA 7,aA 29,0),(aA 30,aA 8,0),(aA 8,aA 30,0),(aA 32,aA 10,0),(aA 10,aA 32,0),(aA 33,aA 11,0),(aA 11,aA 33,0),(aA 34,aA 12,0),(aA 12,aA 34,0),(aA 35,aA 13,0),(aA 13,aA 35,0),(aA 18,aA 40,0)],[sC 999,cC 25,sC 1001]⟩)],[sC 1001,sC 0,sC 0]⟩
def qXW:EnM:=⟨120,qAm,p9,⟨[nN,(.int .u32),n4,n6,(.str 1048576),n7,n8,n5,(.int .i64),n9,n10,pG,n2,.bool,(.int .u32),bN,n13,wH,.bool],[.bool,n6,(.str 1048576),n7,n8,n5,(.int .i64),n9,n10,pG,n2,.bool,(.int .u32),bN,n13,wH,.bool],[(aA 0,.z,1),(.z,aA 0,-1),(aA 12,.z,24),(aA 0,aA 11,0),(aA 0,aA 12,0),(aA 2,aA 12,0)],[(aA 20,aA 3,0),(aA 3,aA 20,0),(aA 21,aA 4,0),(aA 4,aA 21,0),(aA 22,aA 5,0),(aA 5,aA 22,0),(aA 23,aA 6,0),(aA 6,aA 23,0),(aA 24,aA 7,0),(aA 7,aA 24,0),(aA 26,aA 9,0),(aA 9,aA 26,0),(aA 27,aA 10,0),(aA 10,aA 27,0),(aA 28,aA 11,0),(aA 11,aA 28,0),(aA 29,aA 12,0),(aA 12,aA 29,0),(aA 17,aA 34,0)]⟩,[(1,⟨[nN,(.int .u32),n4,pG,(.int .i64),(.int .i64),n6,(.str 1048576),n7,n8,n5,(.int .i64),n9,n10,pG,n2,.bool,(.int .u32),bN,n13,wH,.bool],[(aA 19,aA 0,0),(aA 0,aA 19,0),(.z,aA 24,0),(aA 25,aA 3,0),(aA 3,aA 25,0),(aA 26,aA 4,0),(aA 4,aA 26,0),(aA 27,aA 5,0),(aA 5,aA 27,0),(aA 28,aA 6,0),(aA 6,aA 28,0),(aA 29,aA 7,0),(aA 7,aA 29,0),(aA 31,aA 9,0),(aA 9,aA 31,0),(aA 32,aA 10,0),(aA 10,aA 32,0),(aA 33,aA 22,0),(aA 23,aA 33,0),(aA 33,aA 11,0),(aA 11,aA 33,0),(aA 21,aA 34,0),(aA 34,aA 12,0),(aA 12,aA 34,0),(aA 17,aA 39,0)],[sC 999,cC 24,sC 1001]⟩)],[sC 1001,sC 0,sC 0]⟩
def qXR:EnM:=⟨147,qCx,qQH,⟨[qKv,nN,(.int .u32),n4,n6,(.str 1048576),n7,n8,n5,(.int .i64),n9,n10,pG,n2,.bool,(.int .u32),bN,n13,wH,.bool],[.bool,n6,(.str 1048576),n7,n8,n5,(.int .i64),n9,n10,pG,n2,.bool,(.int .u32),bN,n13,wH,.bool],[(aA 1,.z,1),(.z,aA 1,-1),(aA 3,.z,24),(aA 13,.z,24),(aA 1,aA 12,0),(aA 1,aA 13,0)],[(aA 21,aA 4,0),(aA 4,aA 21,0),(aA 22,aA 5,0),(aA 5,aA 22,0),(aA 23,aA 6,0),(aA 6,aA 23,0),(aA 24,aA 7,0),(aA 7,aA 24,0),(aA 25,aA 8,0),(aA 8,aA 25,0),(aA 27,aA 10,0),(aA 10,aA 27,0),(aA 28,aA 11,0),(aA 11,aA 28,0),(aA 29,aA 12,0),(aA 12,aA 29,0),(aA 30,aA 13,0),(aA 13,aA 30,0),(aA 18,aA 35,0)]⟩,[(1,⟨[nN,(.int .u32),n4,qRz,(.int .i64),(.int .i64),n6,(.str 1048576),n7,n8,n5,(.int .i64),n9,n10,pG,n2,.bool,(.int .u32),bN,n13,wH,.bool,qKv],[(aA 20,aA 1,0),(.z,aA 20,-1),(aA 23,.aT [0,3],1),(aA 24,aA 23,0),(.z,aA 25,0),(aA 26,aA 4,0),(aA 4,aA 26,0),(aA 27,aA 5,0),(aA 5,aA 27,0),(aA 28,aA 6,0),(aA 6,aA 28,0),(aA 29,aA 7,0),(aA 7,aA 29,0),(aA 30,aA 8,0),(aA 8,aA 30,0),(aA 32,aA 10,0),(aA 10,aA 32,0),(aA 33,aA 11,0),(aA 11,aA 33,0),(aA 34,aA 12,0),(aA 12,aA 34,0),(aA 35,aA 13,0),(aA 13,aA 35,0),(aA 18,aA 40,0)],[sC 999,cC 25,sC 1001]⟩)],[sC 1001,sC 0,sC 0]⟩
def qXV:EnM:=⟨120,qAm,p9,⟨[nN,(.int .u32),n4,n6,(.str 1048576),n7,n8,n5,(.int .i64),n9,n10,pG,n2,.bool,(.int .u32),bN,n13,wH,.bool],[.bool,n6,(.str 1048576),n7,n8,n5,(.int .i64),n9,n10,pG,n2,.bool,(.int .u32),bN,n13,wH,.bool],[(aA 0,.z,1),(.z,aA 0,-1),(aA 2,.z,24),(aA 12,.z,24),(aA 0,aA 11,0),(aA 0,aA 12,0)],[(aA 20,aA 3,0),(aA 3,aA 20,0),(aA 21,aA 4,0),(aA 4,aA 21,0),(aA 22,aA 5,0),(aA 5,aA 22,0),(aA 23,aA 6,0),(aA 6,aA 23,0),(aA 24,aA 7,0),(aA 7,aA 24,0),(aA 26,aA 9,0),(aA 9,aA 26,0),(aA 27,aA 10,0),(aA 10,aA 27,0),(aA 28,aA 11,0),(aA 11,aA 28,0),(aA 29,aA 12,0),(aA 12,aA 29,0),(aA 17,aA 34,0)]⟩,[(1,⟨[nN,(.int .u32),n4,pG,(.int .i64),(.int .i64),n6,(.str 1048576),n7,n8,n5,(.int .i64),n9,n10,pG,n2,.bool,(.int .u32),bN,n13,wH,.bool],[(aA 19,aA 0,0),(.z,aA 19,-1),(aA 21,.z,24),(.z,aA 24,0),(aA 25,aA 3,0),(aA 3,aA 25,0),(aA 26,aA 4,0),(aA 4,aA 26,0),(aA 27,aA 5,0),(aA 5,aA 27,0),(aA 28,aA 6,0),(aA 6,aA 28,0),(aA 29,aA 7,0),(aA 7,aA 29,0),(aA 31,aA 9,0),(aA 9,aA 31,0),(aA 32,aA 10,0),(aA 10,aA 32,0),(aA 33,aA 22,0),(aA 23,aA 33,0),(aA 33,aA 11,0),(aA 11,aA 33,0),(aA 34,aA 12,0),(aA 12,aA 34,0),(aA 17,aA 39,0)],[sC 999,cC 24,sC 1001]⟩)],[sC 1001,sC 0,sC 0]⟩
def qXQ:EnM:=⟨147,qCx,qQH,⟨[qKv,zB7,(.int .u32),n2,n6,(.str 1048576),n7,n8,n5,(.int .i64),n9,n10,pG,n2,.bool,(.int .u32),bN,n13,wH,.bool],[.bool,n6,(.str 1048576),n7,n8,n5,(.int .i64),n9,n10,pG,n2,.bool,(.int .u32),bN,n13,wH,.bool],[(aA 3,.z,0),(aA 13,.z,24),(aA 1,aA 3,0),(aA 3,aA 1,0),(aA 3,aA 4,0),(aA 3,aA 5,0),(aA 3,aA 6,0),(aA 3,aA 7,0),(aA 3,aA 8,0),(aA 3,aA 10,0),(aA 3,aA 11,0),(aA 3,aA 12,-1),(aA 3,aA 13,-1)],[(aA 21,aA 4,0),(aA 4,aA 21,0),(aA 22,aA 5,0),(aA 5,aA 22,0),(aA 23,aA 6,0),(aA 6,aA 23,0),(aA 24,aA 7,0),(aA 7,aA 24,0),(aA 25,aA 8,0),(aA 8,aA 25,0),(aA 27,aA 10,0),(aA 10,aA 27,0),(aA 28,aA 11,0),(aA 11,aA 28,0),(aA 29,aA 12,0),(aA 12,aA 29,0),(aA 30,aA 13,0),(aA 13,aA 30,0),(aA 18,aA 35,0)]⟩,[(1,⟨[zB7,(.int .u32),n2,qRz,(.int .i64),(.int .i64),n6,(.str 1048576),n7,n8,n5,(.int .i64),n9,n10,pG,n2,.bool,(.int .u32),bN,n13,wH,.bool,qKv],[(aA 20,aA 22,0),(aA 22,aA 25,0),(aA 22,aA 3,0),(aA 24,aA 23,0),(aA 26,aA 4,0),(aA 4,aA 26,0),(aA 27,aA 5,0),(aA 5,aA 27,0),(aA 28,aA 6,0),(aA 6,aA 28,0),(aA 29,aA 7,0),(aA 7,aA 29,0),(aA 30,aA 8,0),(aA 8,aA 30,0),(aA 32,aA 10,0),(aA 10,aA 32,0),(aA 33,aA 11,0),(aA 11,aA 33,0),(aA 34,aA 12,0),(aA 12,aA 34,0),(aA 35,aA 13,0),(aA 13,aA 35,0),(aA 18,aA 40,0)],[sC 999,cC 25,sC 1001]⟩)],[sC 1001,sC 0,sC 0]⟩
def qXU:EnM:=⟨120,qAm,p9,⟨[zB7,(.int .u32),n2,n6,(.str 1048576),n7,n8,n5,(.int .i64),n9,n10,pG,n2,.bool,(.int .u32),bN,n13,wH,.bool],[.bool,n6,(.str 1048576),n7,n8,n5,(.int .i64),n9,n10,pG,n2,.bool,(.int .u32),bN,n13,wH,.bool],[(aA 12,.z,24),(aA 17,.z,0),(aA 0,aA 17,0),(aA 2,aA 17,0),(aA 17,aA 0,0),(aA 17,aA 2,0),(aA 17,aA 3,0),(aA 17,aA 4,0),(aA 17,aA 5,0),(aA 17,aA 6,0),(aA 17,aA 7,0),(aA 17,aA 9,0),(aA 17,aA 10,0),(aA 17,aA 11,0),(aA 17,aA 12,-1)],[(aA 20,aA 3,0),(aA 3,aA 20,0),(aA 21,aA 4,0),(aA 4,aA 21,0),(aA 22,aA 5,0),(aA 5,aA 22,0),(aA 23,aA 6,0),(aA 6,aA 23,0),(aA 24,aA 7,0),(aA 7,aA 24,0),(aA 26,aA 9,0),(aA 9,aA 26,0),(aA 27,aA 10,0),(aA 10,aA 27,0),(aA 28,aA 11,0),(aA 11,aA 28,0),(aA 29,aA 12,0),(aA 12,aA 29,0),(aA 17,aA 34,0)]⟩,[(1,⟨[zB7,(.int .u32),n2,pG,(.int .i64),(.int .i64),n6,(.str 1048576),n7,n8,n5,(.int .i64),n9,n10,pG,n2,.bool,(.int .u32),bN,n13,wH,.bool],[(aA 21,aA 19,0),(aA 19,aA 21,0),(aA 21,aA 24,0),(aA 21,aA 17,0),(aA 25,aA 3,0),(aA 3,aA 25,0),(aA 26,aA 4,0),(aA 4,aA 26,0),(aA 27,aA 5,0),(aA 5,aA 27,0),(aA 28,aA 6,0),(aA 6,aA 28,0),(aA 29,aA 7,0),(aA 7,aA 29,0),(aA 31,aA 9,0),(aA 9,aA 31,0),(aA 32,aA 10,0),(aA 10,aA 32,0),(aA 33,aA 22,0),(aA 23,aA 33,0),(aA 33,aA 11,0),(aA 11,aA 33,0),(aA 34,aA 12,0),(aA 12,aA 34,0),(aA 2,aA 39,0)],[sC 999,cC 24,sC 1001]⟩)],[sC 1001,sC 0,sC 0]⟩
def zGw:List (Nat×Pat):=[(1,⟨[⟨.pure,true⟩,⟨.pure,true⟩,⟨.pure,true⟩,⟨.pure,false⟩,⟨.fresh,true⟩,⟨.pure,true⟩,⟨.pure,true⟩,⟨.pure,true⟩,⟨.pure,true⟩,⟨.pure,true⟩,⟨.pure,true⟩,⟨.pure,true⟩,⟨.pure,true⟩,⟨.pure,true⟩,⟨.pure,true⟩,⟨.pure,true⟩,⟨.pure,true⟩,⟨.pure,true⟩,⟨.fresh,true⟩],[(6,.loc 5 0),(28,.v 0),(29,.v 1),(30,.v 2)],[some (.whole (.v 3) 9),some (.cells [.fn (.func 73) [] [.loc 2 0,.loc 3 0]]),some (.cells [.v 4]),some (.cells [.v 5]),none,some (.cells [.v 6,.v 7,.v 8,.v 9,.v 10,.v 11,.v 12,.v 13,.v 14,.v 15,.v 16,.v 17,.v 18,.fn (.func 76) [] [.loc 0 0,.loc 1 0]])],[]⟩)]
def zHE:EnM:=⟨75,zAZ,zGw,⟨[n13,n2,n13,wH,.bool],[n13,wH,.bool],[(aA 3,.z,0)],[(aA 3,aA 6,0)]⟩,[(1,⟨[n10,(.int .i64),(.int .i64),n13,wH,.bool,n6,(.str 1048576),n7,n8,n5,(.int .i64),n9,n10,pG,n2,.bool,(.int .u32),bN],[(aA 9,aA 7,0),(aA 9,aA 3,0),(aA 3,aA 9,0),(.z,aA 11,0),(.z,aA 12,0),(.z,aA 13,0),(.z,aA 14,0),(.z,aA 15,0),(.z,aA 17,0),(aA 18,aA 5,0),(aA 6,aA 18,0),(.z,aA 18,0),(.z,aA 19,0),(aA 9,aA 20,-1),(aA 20,.z,24)],[sC 999,cC 7,sC 1001]⟩)],[sC 1001,sC 0,sC 0]⟩
def zHK:En:=⟨38,[],⟨[n13,n2],[wH,(.int .i64)],[],[(.z,aA 3,0)]⟩,[],[sC 1001]⟩
def e13:En:=⟨13,[],⟨[n13,(.str 1048576)],[wH,(.int .i64)],[],[]⟩,[],[sC 1001]⟩
def hand:dW:=[(169,⟨[n0,n5,n2],[n2],[],[(aA 3,aA 2,0)]⟩),(37,⟨[(.st [(.str 1048576),(.sl 81 2 1048576 (.wh (.st [(.str 1048576),(.sl 3 1 1048576 (.int .i64))]) [(.z,.aT [0,1],-1),(.aT [0,1],.z,3)])),(.sl 37 1 1048576 (.sl 9 1 1048576 (.str 1048576)))]),(.str 1048576)],[n2,(.int .i64),(.int .i64)],[],[]⟩),(168,⟨[n2],[(.str BG)],[],[]⟩),(121,⟨[pG,(.int .i64)],[(.sl 105 2 1048576 (.st [(.str 1048576),(.str 1048576)]))],[],[]⟩)]
def qWf:List It:=[.fn qXZ,.fn zEt,.fn zEg,.fn zHt,.fn zHH,.fn zEd,.fn zEq,.md zEb]
def qWe:List It:=[.fn zD2,.fn zD3,.md zEc,.fn zD4,.fn zEe,.fn zEf,.fn zEr,.fn zEs,.fn zHF]
def qWd:List It:=[.md zHG,.md zHC,.md zBF,.md zHD,.md zBE,.md zBD,.md zBC,.md zBI,.md zBB,.md zBA,.md zBz]
def qWc:List It:=[.md zBy,.md zBH,.md zBx,.md qXP,.md qXO,.md qXN,.md qXM]
def qWb:List It:=[.md zBG,.md zEp]
def qWa:List It:=[.md zEa,.md qXY]
def qV9:List It:=[.md qXT,.md qXX]
def qV8:List It:=[.md qXS,.md qXW]
def qV7:List It:=[.md qXR,.md qXV]
def qV6:List It:=[.md qXQ,.md qXU]
def qOb:List It:=[.md zHE,.fn zHK,.fn e13]
def zCT:dW:=hand
def zCR:gJ:=[]
def zFi:dW:=oV zCT qWf
def zE9:gJ:=nJ zCR qWf
def zFh:dW:=oV zFi qWe
def zE8:gJ:=nJ zE9 qWe
def zFg:dW:=oV zFh qWd
def zE7:gJ:=nJ zE8 qWd
def zFf:dW:=oV zFg qWc
def zE6:gJ:=nJ zE7 qWc
def zFe:dW:=oV zFf qWb
def zE5:gJ:=nJ zE6 qWb
def zFd:dW:=oV zFe qWa
def zE4:gJ:=nJ zE5 qWa
def zFc:dW:=oV zFd qV9
def zE3:gJ:=nJ zE4 qV9
def zFb:dW:=oV zFc qV8
def zE2:gJ:=nJ zE3 qV8
def zFa:dW:=oV zFb qV7
def zE1:gJ:=nJ zE2 qV7
def zAw:dW:=oV zFa qV6
def zAs:gJ:=nJ zE1 qV6
def zCS:dW:=oV zAw qOb
def zCQ:gJ:=nJ zAs qOb
end Go.Proofs.YtocbbgmhkhallaaGreatDoor.Ht
namespace Go.Proofs.YtocbbgmhkhallaaGreatDoor
open Go Go.Am Go.Proofs Go.Am.Tt
def qM3:D->D
 |.leaf (.int _ n)=>.leaf (.int .u8 (IntKind.u8.wrap n))
 |d=>d
def kb(es:LR):List UInt8:=es.map λ|.leaf (.int _ n)=>UInt8.ofNat (IntKind.u8.wrap n).toNat|_=>0
def qMg(es:LR):D:=.leaf (.string ⟨⟨kb es⟩⟩)
theorem zBL{n:Int}:TOp.eval EE (.conv 3 5) [dI n]=some (qM3 (dI n)):=by kernel_rfl
theorem qIa:∀{es:LR},(∀x∈es,∃n:Int,x=dI n)->nD (es.map qM3)=some (kb es)
 | [],_=>rfl
 |x::es,h=>by obtain⟨n,rfl⟩:=h x aq;show(nD (es.map qM3)).map (UInt8.ofNat (IntKind.u8.wrap n).toNat :: ·)=_;rw[qIa λy b=>h y (mC _ b)];rfl
theorem qST{es:LR}(h:∀x∈es,∃n:Int,x=dI n):TOp.eval EE .ns [.sl 5 1 (es.map qM3)]=some (qMg es):=by show(bif Nat.beq 1 1 then(nD (es.map qM3)).map λl=>D.leaf (.string ⟨⟨l⟩⟩)else none)=_;rw[qIa h];rfl
theorem qWI{n:Nat}(h:n<=300000000):TOp.eval EE (.mk 5 1 1 false [.int .u8 0]) [dI 0,dI ((n:Nat):Int)]=some (.sl 5 1 []):=by
 have e:Nat.ble (Nat.mul n (Nat.succ (Nat.add 1 1))) 1000000000=true:=bL (by show n*3<=_;omega);rw[qGc];show(match some 0,some n with
  |some 0,some n=>bif Nat.beq 1 1&&[Value.int .u8 0].all (λv=>zP v&&qU v)&&(false||Nat.beq 1 1)&&Nat.ble (Nat.mul n (Nat.succ (Nat.add 1 1))) 1000000000 then some (D.sl 5 1 [])else none
  |_,_=>none)=_
 simp only[e];rfl
theorem zEM{l:LR}{b:D}(h:l.length<=300000000):TOp.eval EE (.app 5 1 1) [.sl 5 1 l,.sl 5 1 [b]]=some (.sl 5 1 (l++[b])):=by rw[uJ (n:=l.length) rfl];have x:Nat.ble (Nat.mul (Nat.add (Nat.mul 4 (Nat.add l.length [b].length)) 4000) (Nat.succ 1)) 100000000000=true:=bL (by show(4*(l.length+1)+4000)*2<=_;omega);rw[x];rfl
theorem zDy{n:Int}:TOp.eval EE (.lit 5 1) [qM3 (dI n)]=some (.sl 5 1 [qM3 (dI n)]):=rfl
attribute [local irreducible] Go.Am.wp Go.Am.TOp.eval
theorem qPc{x:D}(l:qF 300000000 nS x):qA EE 168 [x] (qMg x.es):=by
 have b:=qC l;have o:=qR l;have j:∀y∈x.es,∃n:Int,y=dI n:=λy p=>by obtain⟨i,k⟩:=gy.1 p;exact zG l k
 have g:∀i:Nat,qP EE (qA EE) qNx 1 [.sl 5 1 ((x.es.take i).map qM3),x,dI ((x.es.length:Nat):Int),dI ((i:Nat):Int)] (qMg x.es):=by
  refine vQ x.es.length λi ih=>?_;refine qP.a9 ?_;refine bS zN ?_;refine iC (λc=>?_) λc=>?_
  ·have k:=cB c;have h:=ak k;obtain⟨s,hs⟩:=zG l h;rw[hs]at h;have q:(x.es.take (i+1)).map qM3=(x.es.take i).map qM3++[qM3 (dI s)]:=by rw[List.take_add_one,h,ga];rfl
   refine bS (vD (s:=((i:Nat):Int)) (by omega) h) ?_;refine bS (vX (s:=((i:Nat):Int)) b (by omega) h rfl) ?_;refine bS zBL ?_;refine bS (wB rfl) ?_;refine bS zDy ?_;refine bS (d:=.sl 5 1 ((x.es.take (i+1)).map qM3)) (by rw[q];exact zEM (by rw[bk,cg];omega)) ?_;refine bS (d:=dI ((i+1:Nat):Int)) (zF (zH (by omega))) ?_;exact qY rfl (ih k)
  have k:=qAh c;have e:x.es.take i=x.es:=dc (by omega);rw[e];refine bS (qST j) ?_;exact qE rfl rfl
 refine zCB rfl (qP.a9 ?_);refine bS (qO b) ?_;refine bS (qWI o) ?_;refine bS (qO b) ?_;exact qY rfl (g 0)
theorem qJa:∀{a b:LR},Les a b->(∀y∈a,∃n:Int,y=dI n)->b=a
 |_,_,.nil,_=>rfl
 |_,_,.cons e c,h=>by obtain⟨n,rfl⟩:=h _ aq;rw[e.de,qJa c λy x=>h y (mC _ x)]
theorem qXg{x:D}(c:qF 300000000 nS x):HC EE 168 [x] (qMg x.es):=by
 refine⟨qPc c,λo k=>?_⟩;cases k with
 |cons e j=>
  cases j;rename_i y;have b:∀y∈x.es,∃n:Int,y=dI n:=λy g=>by obtain⟨i,l⟩:=gy.1 g;exact zG c l
  have he:y.es=x.es:=qJa e.es b;refine⟨qMg x.es,.leaf,?_⟩;rw[←he];refine qPc ?_;cases e with
  |nil=>exact yR
  |gone=>exact yR
  |sl h=>have:_=_:=qJa h b;subst this;exact c
  |leaf=>simp only[qF]at c;rcases c with h|⟨_,h,_⟩<;>cases h
  |_=>simp only[qF]at c;rcases c with h|⟨_,h,_⟩<;>cases h
end Go.Proofs.YtocbbgmhkhallaaGreatDoor
