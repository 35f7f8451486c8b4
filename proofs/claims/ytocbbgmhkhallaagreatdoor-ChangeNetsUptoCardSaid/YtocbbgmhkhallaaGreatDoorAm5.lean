/- Frames, single operations, hidden blocks. Conditions: none. -/
import Derived.Test.YtocbbgmhkhallaaGreatDoorAm4
set_option linter.unusedVariables false
set_option linter.unusedSimpArgs false
namespace Go.Am
open Go
abbrev aj:=@Option.map_some
abbrev ct:=@Go.step_lone_go
abbrev cu:=@Array.getElem?_eq_some_iff
abbrev dk:=@Prod.mk.injEq
abbrev du:=@Option.some.inj
abbrev fj:=@Bool.true_or
abbrev fy:=@Bool.not_eq_true'
abbrev gj:=@List.drop_drop
abbrev ik:=@Nat.le_of_not_lt
abbrev je:=@List.mem_range
abbrev ke:=@List.any_eq_true
def Fm(b:Frame)(tmps:LD)(ds:List Deferred)(todo:List Item):Frame:={b with tmps:=tmps,defers:=ds,todo:=todo,mode:=.run}
def oG(tmps:LD)(h:Option Tmp)(v:LQ):LD:=match h with
 |some d=>tmps.setIfInBounds d v
 |none=>tmps
theorem qBO(b:Frame)(tmps:LD)(ds:List Deferred)(h:List Item)(x:LM):(Fm b tmps ds h).eval x=Act.eval ⟨tmps,[]⟩ x:=by cases x<;>rfl
theorem qIs(b:Frame)(tmps:LD)(ds:List Deferred)(h:List Item):(Fm b tmps ds h).eval=Act.eval ⟨tmps,[]⟩:=funext (qBO b tmps ds h)
variable{c:Code}{i:Nat}{o:Oper}{rest:LC}
section moves
variable{P:LK}{b:Frame}{tmps:LD}{ds:List Deferred}{k:List Item}{cs:List Frame}{w:LP}{ops:LF}
theorem qKR:step P (lone (Fm b tmps ds (.code .skip::k)) cs w)=.next (lone (Fm b tmps ds k) cs w):=
 ct (by simp[stepG,stepG.exec,Fm])
theorem qHC{l:Nat}:step P (lone (Fm b tmps ds (.code (.label l)::k)) cs w)=.next (lone (Fm b tmps ds k) cs w):=
 ct (by simp[stepG,stepG.exec,Fm])
theorem qCX{id:Nat}:step P (lone (Fm b tmps ds (.inBlock id::k)) cs w)=.next (lone (Fm b tmps ds k) cs w):=
 ct (by simp[stepG,stepG.exec,Fm])
theorem qCW:step P (lone (Fm b tmps ds (.inScope c::k)) cs w)=.next (lone (Fm b tmps ds k) cs w):=
 ct (by simp[stepG,stepG.exec,Fm])
theorem qAy{x y:Code}:step P (lone (Fm b tmps ds (.code (.seq x y)::k)) cs w)=.next (lone (Fm b tmps ds (.code x::.code y::k)) cs w):=
 ct (by simp[stepG,stepG.exec,Fm])
theorem qBI{c:LM}{x y:Code}{t:Bool}(h:Act.eval ⟨tmps,[]⟩ c=.bool t):
  step P (lone (Fm b tmps ds (.code (.cond c x y)::k)) cs w)=.next (lone (Fm b tmps ds (.code (if t then x else y)::k)) cs w):=
 ct (by
  have:=qBO b tmps ds (.code (.cond c x y)::k) c
  rw[h]at this
  simp only[Fm]at this
  simp[stepG,stepG.exec,Fm,this])
theorem eU{id:Nat}:step P (lone (Fm b tmps ds (.code (.block id c)::k)) cs w)=.next (lone (Fm b tmps ds (.code c::.inBlock id::k)) cs w):=
 ct (by simp[stepG,stepG.exec,Fm])
theorem qHB:step P (lone (Fm b tmps ds (.code (.scope c)::k)) cs w)=.next (lone (Fm b tmps ds (.code c::.inScope c::k)) cs w):=
 ct (by simp[stepG,stepG.exec,Fm])
theorem qSb:step P (lone (Fm b tmps ds (.code (.loop c)::k)) cs w)=.next (lone (Fm b tmps ds (.code c::.inLoop c::k)) cs w):=
 ct (by simp[stepG,stepG.exec,Fm])
theorem qEO:step P (lone (Fm b tmps ds (.inLoop c::k)) cs w)=.next (lone (Fm b tmps ds (.code c::.inLoop c::k)) cs w):=
 ct (by simp[stepG,stepG.exec,Fm])
theorem qKS{id:Nat}{k':List Item}(h:exitTo id k=some k'):step P (lone (Fm b tmps ds (.code (.exit id)::k)) cs w)=.next (lone (Fm b tmps ds k') cs w):=
 ct (by simp[stepG,stepG.exec,Fm,h])
theorem qEN{id:Nat}:step P (lone (Fm b tmps ds (.code (.region id ops false)::k)) cs w)=.next (lone (Fm b tmps ds (.inRegion ops (List.range ops.size)::k)) cs w):=
 ct (by simp[stepG,stepG.exec,Fm])
theorem qCT{id:Nat}:step P (lone (Fm b tmps ds (.code (.region id ops true)::k)) cs w) =
  .next (lone (Fm b tmps ds (.inRegion ops (Region.schedule (P.follows .mixedOrders) ops (w.tape w.drawn (.order b.fn id)))::k)) cs {w with drawn:=w.drawn+1}):=
 ct (by simp[stepG,stepG.exec,Fm,choose,Sem.run,Question.forced,Question.cut])
theorem bG:step P (lone (Fm b tmps ds (.inRegion ops []::k)) cs w)=.next (lone (Fm b tmps ds k) cs w):=
 ct (by simp[stepG,stepG.exec,Fm])
theorem oD(h:ops[i]? = some o)(v:LQ):(Fm b tmps ds (.inRegion ops (i::rest)::k)).finish v=Fm b (oG tmps o.dst v) ds (.inRegion ops rest::k):=by cases hd:o.dst<;>simp[Frame.finish,Fm,oG,h,hd]
theorem qCU(y:ops[i]? = some o)(h:Region.wanted o (yielded ops tmps)=false):step P (lone (Fm b tmps ds (.inRegion ops (i::rest)::k)) cs w)=.next (lone (Fm b (oG tmps o.dst undef) ds (.inRegion ops rest::k)) cs w):=by rw[←oD y];exact ct (by simp only[Fm];simp[stepG,stepG.exec,y,h])
theorem qPv(g:ops[i]? = some o)(h:Region.wanted o (yielded ops tmps)=true)(hd:∀c,o.op≠.defer c):
  stepG P true {frame:=Fm b tmps ds (.inRegion ops (i::rest)::k),callers:=cs,status:=.running,dying:=none} w =
   stepG.apply P true (Fm b tmps ds (.inRegion ops (i::rest)::k)) cs none (execOp (Act.eval ⟨tmps,[]⟩) o) w:=by
 have he:=qIs b tmps ds (.inRegion ops (i::rest)::k)
 simp only[Fm]at he
 simp only[Fm]
 have:∀(r:Option Nat) (x y:GStep) (f:Nat->Call->GStep),(match r,o.op with|some l,.defer c=>f l c|_,_=>x)=x:=by
  grind
 cases hr:b.roundOf with
 |none=>
  simp only[hr]at he
  simp[stepG,stepG.exec,stepG.oper,Frame.oper?,g,h,he,hr]
 |some l=>
  simp only[stepG,stepG.exec,stepG.oper,Frame.oper?,g,h,hr]
  simp[g,h,hr,he]
  cases e:o.op<;>first|rfl|exact absurd e (hd _)
end moves
variable{H':AH}{fr:Fr}{ih:Cmd->AH->xM}{tmps:LD}{v:LQ}
section
variable{E:Env}{σ:vO}{H:AH}{w:LP}
def xK(E:Env)(f:LO)(y:LA)(H:AH)(v:LQ)(H':AH):Prop:=
 ∀(σ:vO) (w:LP) (h:LA),HR E σ H w->VRs σ y h->yU σ H.next H'.next->Calls E.prog f ⟨h⟩ w λe w'=>∃σ' v',e=.returned v'/\VR σ' v v'/\Step E σ H w σ' H' w'
def yF(E:Env)(l:Nat)(y:LA)(H:AH)(v:LQ)(H':AH):Prop:=
 ∀(σ:vO) (w:LP) (h:LA) (L:Loc) (lo:Loop),HR E σ H w->VRs σ y h->yU σ H.next H'.next->σ l=some L->w.heap[L.hS]? = some (.loop lo)->h.length=lo.params.size->∀(c:Frame) (cs:List Frame),∃σ' w' v',VR σ' v v'/\Step E σ H w σ' H' w'/\Steps E.prog (lone (Frame.round L.hS lo.fn ((lo.params.zip ⟨h⟩).foldl (λtmps (t,a)=>tmps.setIfInBounds t a) lo.tmps) lo.assign lo.body .normal) (c::cs) w) (lone (c.finish v') cs w')
theorem qC1(he:EOk E)(hc:∀f y H v H',ih (.call f y) H=some (.val v,H')->xK E f y H v H')(V:∀l y H v H',ih (.round l y) H=some (.val v,H')->yF E l y H v H')(hn:∀f y H v H',ih (.call f y) H=some (.val v,H')->H.next<=H'.next)(W:∀f y H v H',ih (.round f y) H=some (.val v,H')->H.next<=H'.next){ops:LF}(h:jA E ih fr o H=some (v,H'))(hr:HR E σ H w)(I:yU σ H.next H'.next)(Z:∀x∈o.op.operands.toList,∀v,ev E fr x=some v->VR σ v (Act.eval ⟨tmps,[]⟩ x))(J:ops[i]? = some o)(hw:Region.wanted o (yielded ops tmps)=true)(b:Frame)(ds:List Deferred)(rest:LC)(k:List Item)(cs:List Frame):∃σ' w' v',VR σ' v v'/\Step E σ H w σ' H' w'/\Steps E.prog (lone (Fm b tmps ds (.inRegion ops (i::rest)::k)) cs w) (lone (Fm b (oG tmps o.dst v') ds (.inRegion ops rest::k)) cs w'):=by
 have hd:∀c,o.op≠.defer c:=by intro c e;simp[jA,jH,e]at h
 have K:=qPv (P:=E.prog) (b:=b) (tmps:=tmps) (ds:=ds) (k:=k) (cs:=cs) (w:=w) (rest:=rest) J hw hd;have q:=qLq (a:=⟨tmps,[]⟩) he hr o Z;unfold jA at h;split at h
 ·cases h
 ·rename_i v1 H1 u;cases h;obtain⟨σ',w',nx,C,r,z⟩:=q _ _ u I;cases nx<;>simp only[qM0]at z;rename_i v';refine⟨σ',w',v',z,r,.one (ct ?_)⟩;rw[K,←oD J];simp[stepG.apply,C]
 ·rename_i H1 u;cases h;obtain⟨σ',w',nx,C,r,z⟩:=q _ _ u I;cases nx<;>simp only[qM0]at z;refine⟨σ',w',undef,.tuple .nil,r,.one (ct ?_)⟩;rw[K,←oD J];simp[stepG.apply,C]
 ·cases h
 ·rename_i f y H1 u;split at h;case h_2=>cases h
  rename_i v1 H2 G;cases h;have X:=hn _ _ _ _ _ G;have g:yU σ H.next H1.next:=λb u G=>I b u (by omega);obtain⟨B,N,nx,C,r,z⟩:=q _ _ u g;cases nx<;>simp only[qM0]at z;rename_i f' p;obtain⟨rfl,r4,fn,hfn⟩:=z;have F:=hc _ _ _ _ _ G B N p.toList r.hr r4 (I.split r.ext r.next) (Fm b tmps ds (.inRegion ops (i::rest)::k)::cs);obtain⟨e,M,fr2,⟨A,v',rfl,U,R⟩,O,_,q4⟩:=F;refine⟨A,M,v',U,r.trans R,.head (ct ?_) (O.trans (.one ?_))⟩
  ·rw[K];simp[stepG.apply,C,Fm]
  rw[←oD J];exact step_leave_returned q4
 rename_i l y H1 u;split at h;case h_2=>cases h
 rename_i v1 H2 G;cases h;have X:=W _ _ _ _ _ G;have g:yU σ H.next H1.next:=λb u G=>I b u (by omega);obtain⟨B,N,nx,C,r,z⟩:=q _ _ u g;simp only[qM0]at z;obtain⟨L,lo,p,s1,s2,s3,s4,rfl⟩:=z;obtain⟨A,M,v',U,R,O⟩:=V _ _ _ _ _ G B N p L lo r.hr s3 (I.split r.ext r.next) s1 s2 s4 (Fm b tmps ds (.inRegion ops (i::rest)::k)) cs;refine⟨A,M,v',U,r.trans R,.head (ct ?_) (by rw[←oD J];exact O)⟩;rw[K];simp[stepG.apply,C,Fm]
def qBk(b:Frame)(cs:List Frame):Prop:=b.kind=.normal∨(b.kind=.deferred/\∃c r,cs=c::r/\c.mode=.returning)
theorem qL0{b fr:Frame}{cs:List Frame}(h:qBk b cs)(y:fr.kind=b.kind):tryRecover fr cs=none:=by
 rcases h with h|⟨h,c,r,rfl,hm⟩
 ·unfold tryRecover;rw[y,h]
 unfold tryRecover;rw[y,h];simp only[hm]
theorem qMv(he:EOk E)(R:∀f y H v H',ih (.call f y) H=some (.val v,H')->xK E f y H v H')(u:∀l y H v H',ih (.round l y) H=some (.val v,H')->yF E l y H v H')(M:∀f y H v H',ih (.call f y) H=some (.val v,H')->H.next<=H'.next)(B:∀f y H v H',ih (.round f y) H=some (.val v,H')->H.next<=H'.next){ops:LF}(h:yM E ih fr o H=some (v,H'))(F:HR E σ H w)(G:yU σ H.next H'.next)(r:∀x∈o.op.operands.toList,∀v,ev E fr x=some v->VR σ v (Act.eval ⟨tmps,[]⟩ x))(A:ops[i]? = some o)(C:Region.wanted o (yielded ops tmps)=true)(b:Frame)(ds:List Deferred)(rest:LC)(k:List Item)(cs:List Frame)(N:qBk b cs)(z:fr.rd=false->b.roundOf=none):∃σ' w' v',VR σ' v v'/\Step E σ H w σ' H' w'/\Steps E.prog (lone (Fm b tmps ds (.inRegion ops (i::rest)::k)) cs w) (lone (Fm b (oG tmps o.dst v') ds (.inRegion ops rest::k)) cs w'):=by
 unfold yM at h;split at h
 ·rename_i H1 I;cases g:fr.rd with
  |true=>rw[g]at h;cases h
  |false=>
   rw[g]at h;cases h;have hd:∀c,o.op≠.defer c:=by intro c e;simp[jH,e]at I
   have O:=qPv (P:=E.prog) (b:=b) (tmps:=tmps) (ds:=ds) (k:=k) (cs:=cs) (w:=w) (rest:=rest) A C hd;obtain⟨σ',w',nx,L,K,J⟩:=qLq (a:=⟨tmps,[]⟩) he F o r _ _ I G;cases nx<;>simp only[qM0]at J;have p:=qL0 (fr:=Fm b tmps ds (.inRegion ops (i::rest)::k)) N rfl;have q:(Fm b tmps ds (.inRegion ops (i::rest)::k)).roundOf=none:=z g;refine⟨σ',w',.nilIface,.leaf rfl,K,.one (ct ?_)⟩;rw[O,←oD A];simp[stepG.apply,L,q,p]
 exact qC1 he R u M B h F G r A C b ds rest k cs
end
theorem yZ:∀(W:LC) (t:T ABlk) (b:Nat),(lW t W).get b=if b∈W then none else t.get b
 | [],t,b=>by simp[lW]
 |c::W,t,b=>by rw[lW,yZ W,T.ch];grind
theorem wS(h:T ABlk):∀(W:LC) (t:T ABlk) (b:Nat),(yV t h W).get b=if b∈W then h.get b else t.get b
 | [],t,b=>by simp[yV]
 |c::W,t,b=>by rw[yV,wS h W,T.ch];grind
variable{b j:Nat}{k:ABlk}
section
variable{E:Env}{σ σ':vO}{H Q H':AH}{w w':LP}
theorem HR.pb(hr:HR E σ H w)(W:LC):HR E σ (vI H W) w:=by
 have g:∀b k,(vI H W).blocks.get b=some k->H.blocks.get b=some k:=by
  intro b k h;rw[show(vI H W).blocks=lW H.blocks W from rfl,yZ]at h;split at h
  ·cases h
  exact h
 exact⟨λb k L u=>hr.kq b k L (g b k u),λp l e y r q A z=>hr.sep p l e y r q (g _ _ A) (g _ _ z),hr.la,λb k u=>hr.wf b k (g b k u)⟩
theorem HR.lt(y:HR E σ H w){L:Loc}(e:H.blocks.get b=some k)(h:σ b=some L):L.hS<w.heap.size:=by obtain⟨g,l,_⟩:=y.kq b k L e h;grind
theorem Step.p1(h:HR E σ H w)(s:Step E σ H w σ' H' w')(g:H.next<=H'.low):∀B,B<w.heap.size->w'.heap[B]? = w.heap[B]? :=
 λB e=>s.frame B e λb k _ y _ _ l=>absurd (h.wf b k y) (by omega)
theorem Step.p2(g:HR E σ H w)(s:Step E σ H w σ' H' w')(q:H.next<=H'.low):∀b,b<H.next->H'.blocks.get b=H.blocks.get b:=by
 intro b l;cases h:H.blocks.get b with
 |some k=>exact s.hN b k h (by have:=g.wf b k h;omega)
 |none=>
  cases p:H'.blocks.get b with
  |none=>rfl
  |some k=>obtain⟨y,e,_⟩:=s.kp b k p l;rw[h]at e;cases e
theorem Step.si(g:HR E σ H w)(s:Step E σ H w σ' H' w'):∀b,b<H.next->b<H'.low->H'.blocks.get b=H.blocks.get b:=by
 intro b l q;cases h:H.blocks.get b with
 |some k=>exact s.hN b k h (by have:=g.wf b k h;omega)
 |none=>
  cases p:H'.blocks.get b with
  |none=>rfl
  |some k=>obtain⟨y,e,_⟩:=s.kp b k p l;rw[h]at e;cases e
theorem Step.p3(q:HR E σ H w)(s:Step E σ H w σ' H' w')(A:H.next<=H'.low):∀b k L,H.next<=b->H'.blocks.get b=some k->σ' b=some L->w.heap.size<=L.hS:=by
 intro b k L r g p;obtain⟨B,u⟩:=s.born b k g r;rcases s.origin b k L g u p with h|⟨e,y,l,z,_,_,_,C⟩
 ·exact h
 have:=q.wf e y z;omega
theorem Step.restore{W:LC}(hr:HR E σ H w)(hf:yU σ H.next Q.next)(s:Step E σ (vI H W) w σ' Q w')(hp:H.next<=Q.low):Step E σ H w σ' (jV H Q W) w':=by
 have K:=hr.pb W;have M:(vI H W).next<=Q.low:=hp;have p1:=s.p1 K M;have p2:=s.p2 K M;have p3:=s.p3 K M;have gR:∀b,(jV H Q W).blocks.get b=if b∈W then H.blocks.get b else Q.blocks.get b:=λb=>wS _ _ _ _;have q:∀b,b<H.next->(jV H Q W).blocks.get b=H.blocks.get b:=by
  intro b p;rw[gR];split
  ·rfl
  ·rename_i hW;rw[p2 b p];show(lW H.blocks W).get b=_;rw[yZ,bf hW]
 have e:∀b k,H.next<=b->(jV H Q W).blocks.get b=some k->Q.blocks.get b=some k:=by
  intro b k p V;rw[gR]at V;split at V
  ·have:=(hr.wf b k V).2;omega
  ·exact V
 have z:∀b,b<H.next->σ' b=σ b:=λb p=>s.ext b (.inl p);have Z:vO.le σ σ':=s.le hf
 refine { hr:=?_,next:=s.next,ext:=s.ext,size:=s.size,low:=dw _ _,tape:=s.tape,os:=s.os,output:=s.output,frame:=λB hB _=>p1 B hB,
          origin:=?_,kp:=?_,hN:=?_,born:=?_}
 ·refine {kq:=?_,sep:=?_,la:=s.hr.la,wf:=?_}
  ·intro b k L p N;by_cases h:b<H.next
   ·rw[q b h]at p;rw[z b h]at N;obtain⟨o,O,I⟩:=hr.kq b k L p N;exact⟨o,by rw[p1 _ (hr.lt p N)];exact O,I.mono Z⟩
   ·exact s.hr.kq b k L (e b k (by omega) p) N
  ·intro l y u r G F O I X C A R;by_cases U:l<H.next
   ·rw[q l U]at O;rw[z l U]at C;by_cases J:y<H.next
    ·rw[q y J]at I;rw[z y J]at A;exact hr.sep l y u r G F O I X C A R
    ·have:=p3 y r F (ik J) (e y r (by omega) I) A;have:=hr.lt O C;omega
   ·have q1:=e l u (by omega) O;by_cases J:y<H.next
    ·rw[q y J]at I;rw[z y J]at A;have:=p3 l u G (ik U) q1 C;have:=hr.lt I A;omega
    ·exact s.hr.sep l y u r G F q1 (e y r (by omega) I) X C A R
  ·intro b k p;by_cases h:b<H.next
   ·rw[q b h]at p;have:=hr.wf b k p;exact⟨this.1,bp this.2 s.next⟩
   ·exact s.hr.wf b k (e b k (by omega) p)
 ·intro b k L p X N;by_cases h:b<H.next
  ·grind
  ·exact .inl (p3 b k L (ik h) (e b k (by omega) p) N)
 ·grind
 ·intro b k p _;rw[q b (hr.wf b k p).2];exact p
 ·intro b k p h;obtain⟨U,J⟩:=s.born b k (e b k h p) h;exact⟨U.imp id λg=>lT (bq _ _) g,J⟩
theorem cR{y:Fr}{dst:Option Tmp}{v':LQ}(g:sO σ fr tmps)(h:yI fr dst v=some y)(hv:VR σ v v'):sO σ y (oG tmps dst v'):=by
 unfold yI at h;cases dst with
 |none=>cases h;exact g
 | some d=>
  simp only[jD]at h;split at h;case isFalse=>cases h
  rename_i p;cases h;refine⟨by simp[oG,g.1],λt u hu=>?_⟩;have l:=g.1;simp only[T.ch]at hu;simp only[oG];by_cases e:t=d
  ·subst e;rw[bo rfl]at hu;cases hu;have:(tmps.setIfInBounds t v').getD t undef=v':=by simp[Array.getD,show t<tmps.size by omega]
   rw[this];exact hv
  rw[bf e]at hu;have:(tmps.setIfInBounds d v').getD t undef=tmps.getD t undef:=by have e':¬d=t:=λh=>e h.symm;simp_all
  rw[this];exact g.2 t u hu
theorem VR.qv{v':LQ}(h:VR σ v v')(b:Bool):v'=.bool b->v=.bool b:=by intro e;subst e;cases h;rfl
theorem qAR{ops:LF}{r:Option Bool}(h:dY ops fr j=some r)(J:∀d,((ops[j]?).bind (·.dst))=some d->∀v,fr.t.get d=some v->VR σ v (tmps.getD d undef)):yielded ops tmps j=r:=by
 unfold dY at h;split at h
 ·rename_i d op ty pos L K F;have p:ops[j]? = some {dst:=some d,op:=op,type:=ty,pos:=pos,after:=L,guard:=K}:=by simpa using F
  have y:=J d (by simp[p]);have I:yielded ops tmps j=match tmps[d]? with|some (.bool b)=>some b|_=>none:=by simp[yielded,p];rfl
  have G:tmps.getD d undef=(tmps[d]?).getD undef:=by simp
  rw[G]at y;rw[I];split at h
  ·rename_i b hv;cases h;have z:=(y _ hv).nt;cases A:tmps[d]? with
   |none=>rw[A]at z;simp[undef]at z
   |some u=>rw[A]at z;simp at z;subst z;rfl
  ·rename_i v B hv;cases h;have q:=y v hv;cases A:tmps[d]? with
   |none=>rfl
   |some u=>rw[A]at q;cases u<;>first|rfl|(have:=q.qv _ rfl;subst this;exact(B _ rfl).elim)
  cases h
 rename_i F;cases h;cases p:ops[j]? with
 |none=>simp[yielded,p]
 |some l=>
  have C:ops.toList[j]? = some l:=by simpa using p
  cases g:l.dst with
  |none=>simp[yielded,p,g]
  |some d=>exact absurd C (by intro e;exact F d l.op l.type l.pos l.after l.guard (by rw[e,←g]))
theorem mB{ops:LF}{b:Bool}(h:vU ops fr o=some b)(g:∀j want,o.guard=some (j,want)->∀d,((ops[j]?).bind (·.dst))=some d->∀v,fr.t.get d=some v->VR σ v (tmps.getD d undef)):Region.wanted o (yielded ops tmps)=b:=by
 unfold vU at h;unfold Region.wanted;split at h
 ·rename_i y;simp only[y];cases h;rfl
 rename_i j want y;simp only[y];split at h
 ·rename_i c e;cases h;rw[qAR e (g j want y)];rfl
 ·rename_i e;cases h;rw[qAR e (g j want y)];rfl
 cases h
end
inductive Anc (ops:LB):Nat->Nat->Prop
 |sj {p i:Nat} {o:Oper} (h:ops[i]? = some o) (hp:p∈eH o):Anc ops p i
 |trans {a p i:Nat} {o:Oper} (h:ops[i]? = some o) (hp:p∈eH o) (ha:Anc ops a p):Anc ops a i
theorem qHg(acc:LC)(j:Nat):∀(y:LC) (m:Nat),(qAl acc y m).testBit j=true->m.testBit j=true∨∃p∈y,j=p∨(acc.getD p 0).testBit j=true
 | [],m,h=>.inl h
 | p::y,m,h=>by
  simp only[qAl]at h;rcases qHg acc j y _ h with h|⟨q,g,h⟩
  ·have e:Nat.lor m (Nat.lor (Nat.shiftLeft 1 p) (acc.getD p 0))=m|||(1 <<< p|||acc.getD p 0):=rfl;rw[e,Nat.testBit_or,Nat.testBit_or,dt,dt]at h;rcases h with h|h|h
   ·exact .inl h
   ·refine .inr ⟨p,by simp,.inl ?_⟩;rw[Nat.one_shiftLeft,Nat.testBit_two_pow]at h;exact(dT h).symm
   grind
  grind
theorem iU(all:LB):∀(g:LB) (acc:LC),(∀i,i<acc.length->∀j,(acc.getD i 0).testBit j=true->Anc all j i)->all.drop acc.length=g->
  ∀i j,((cE acc g).getD i 0).testBit j=true->Anc all j i
 | [],acc,h,_,i,j,y=>by
  simp only[cE]at y
  grind
 | o::g,acc,h,hd,i,j,y=>by
  simp only[cE]at y
  have u:all[acc.length]? = some o:=by
   have:=congrArg (·[0]?) hd
   simpa using this
  refine iU all g _ ?_ ?_ i j y
  ·intro i A j y
   simp only[bx,dj,dg]at A
   by_cases z:i<acc.length
   ·grind
   have q:i=acc.length:=by omega
   subst q
   have e:(acc++[qAl acc (eH o) 0]).getD acc.length 0=qAl acc (eH o) 0:=by simp
   rw[e]at y
   rcases qHg acc j _ _ y with C|⟨p,r,rfl|B⟩
   ·simp at C
   ·exact .sj u r
   by_cases l:p<acc.length
   ·exact .trans u r (h p l j B)
   grind
  have:=congrArg (List.drop 1) hd
  rw[gj]at this
  simpa using this
variable{ops:LB}
theorem qDx(h:rC (kS ops) j i=true):Anc ops j i:=
 iU ops ops [] (by simp) (by simp) i j h
theorem bR(h:rO (kS ops) j i=true):(j<i->Anc ops j i)/\(¬j<i->Anc ops i j):=by
 unfold rO at h;cases y:Nat.blt j i with
 |true=>rw[y,ai]at h;have:j<i:=oA y;exact⟨λ_=>qDx h,λg=>absurd this g⟩
 |false=>
  rw[y,bc]at h;have:¬j<i:=λe=>by have:Nat.blt j i=true:=bL e;rw[this]at y;cases y
  exact⟨λg=>absurd g this,λ_=>qDx h⟩
theorem qHJ(h:kD ops i=true):xW ops i=false:=by unfold kD at h;grind
theorem qHI(h:kD ops i=true)(e:j<ops.length)(y:j≠i)(g:xW ops j=false):rO (kS ops) j i=true:=by
 unfold kD at h;simp only[aE,al,je,dt]at h;rcases h.2 j e with(h|h)|h
 ·simp_all
 all_goals grind
theorem tG{ts:List (Nat×Nat)}{i:Nat}:∀{n lo:Nat},cQ ts i n lo=true->∀b,lo<=b->b<lo+n->(i,b)∈ts
 |0,lo,_,b,g,y=>by omega
 |n+1,lo,h,b,g,y=>by
  unfold cQ at h;rw[aE]at h;by_cases e:b=lo
  ·simp_all
  exact tG h.2 b (by omega) (by omega)
variable{ts:List (Nat×Nat)}
theorem qF4{all:LB}{n lo:Nat}(h:kK all ts i n lo=true):kD all i=true∨(xW all i=false/\∀b,lo<=b->b<n->(i,b)∈ts):=by
 unfold kK at h;rw[dt,aE,fy]at h;rcases h with h|⟨e,y⟩
 ·exact .inl h
 refine .inr ⟨e,λb g l=>tG y b g ?_⟩;show b<lo+(n-lo);omega
theorem qJu{all:LB}{n lo:Nat}(h:kD all i=true):kK all ts i n lo=true:=by unfold kK;rw[h,fj]
theorem tH{ts:List (Nat×Nat)}{p:Nat×Nat}{i:Nat}:∀{n lo:Nat},cQ ts i n lo=true->cQ (p::ts) i n lo=true
 |0,_,_=>rfl
 |n+1,lo,h=>by unfold cQ at h ⊢;rw[aE]at h ⊢;refine⟨?_,tH h.2⟩;grind
theorem qF5{all:LB}{p:Nat×Nat}{n lo:Nat}(h:kK all ts i n lo=true):kK all (p::ts) i n lo=true:=by unfold kK at h ⊢;rw[dt,aE]at h ⊢;exact h.imp id λh=>⟨h.1,tH h.2⟩
theorem qIQ(h:b9 ops=true){p:Nat}(g:ops[i]? = some o)(y:p∈eH o):p<i:=by
 unfold b9 at h;simp only[al,aE]at h;have e:(o,i)∈ops.zipIdx:=by grind
 have:=(h (o,i) e).1 p y;exact oA this
theorem qAW(h:b9 ops=true){k:Nat}{q:Oper}(l:ops[i]? = some o)(g:ops[k]? = some q)(y:k≠i){d:Tmp}(hd:q.dst=some d)(p:d∈lS ops o):rO (kS ops) k i=true:=by
 unfold b9 at h;simp only[al,aE,dt]at h;have r:(o,i)∈ops.zipIdx:=by rw[List.mem_zipIdx_iff_getElem?];exact l
 have e:(q,k)∈ops.zipIdx:=by rw[List.mem_zipIdx_iff_getElem?];exact g
 rcases(h (o,i) r).2 (q,k) e with h|h
 ·exact absurd (vW h) y
 simp only[hd,dt,fy,List.contains_eq_mem,decide_eq_false_iff_not]at h;rcases h with h|h
 ·exact absurd p h
 exact h
theorem qCH{all:LB}{i:Nat}:∀{ts:List (Nat×Nat)} {j b:Nat},(j,b)∈ts->j≠i->rO (kS all) j i=false->b∈qV all i ts
 | [],j,b,h,_,_=>by simp at h
 | (p,q)::ts,j,b,h,y,e=>by
  simp only[qV];simp only[bl,dk]at h;rcases h with⟨rfl,rfl⟩|h
  ·have l:Nat.beq j i=false:=by
    cases g:Nat.beq j i with
    |false=>rfl
    |true=>exact absurd (vW g) y
   simp[l,e]
  have:=qCH h y e;grind
def Up(H:AH)(r:gP):Prop:=∀ar H',r=some (ar,H')->H.next<=H'.next
variable{H:AH}
theorem Up.none:Up H none:=λ_ _ h=>by cases h
theorem Up.one{H:AH}{v:LG}:Up H (one H v):=by intro ar H' h;simp only[Go.Am.one,aa]at h;grind
variable{ar:AR}
theorem Up.same:Up H (some (ar,H)):=λ_ _ h=>by cases h;exact vP _
variable{x:AObj}
theorem Up.new:Up H (some (ar,H.new x)):=λ_ _ h=>by cases h;exact cx _
theorem Up.write:Up H (some (ar,H.write b k x)):=λ_ _ h=>by cases h;exact vP _
theorem Up.move:Up H (some (ar,H.move b k x)):=λ_ _ h=>by cases h;exact cx _
theorem lI{vs:LA}(h:H.kR b i vs=some H'):H'.next=H.next:=by
 unfold AH.kR at h;split at h
 ·simp only[aa]at h;obtain⟨_,_,rfl⟩:=h;rfl
 cases h
theorem Up.nj{r:Option AH}(h:∀H',r=some H'->H'.next=H.next):Up H (r.map λH'=>(ar,H')):=by intro a H' e;simp_all
variable{E:Env}{t:LN}
theorem qGP{a:LQ}(h:kN E H t a v=some H'):H'.next=H.next:=by
 unfold kN at h;split at h
 ·simp only[zI]at h;split at h
  ·exact lI h
  cases h
 cases h
theorem sV{m k:LQ}(h:rE E H t m k v=some H'):H'.next=H.next:=by
 unfold rE at h;split at h;case h_2=>cases h
 split at h;case h_2=>cases h
 cases y:zP k with
 |false=>rw[y]at h;simp at h
 | true=>
  rw[y,ai]at h;split at h
  ·split at h;case h_2=>cases h
   rename_i e _;cases g:Instr.sameBits 10000 e.key k with
   |false=>rw[g]at h;simp at h
   |true=>rw[g,ai]at h;cases h;rfl
  ·cases h;rfl
  cases h
theorem qGm{m k:LQ}(h:uM E H t m k=some H'):H'.next=H.next:=by unfold uM at h;cases h
theorem Up.bif{c:Bool}{x y:gP}(e:Up H x)(h:Up H y):Up H (bif c then x else y):=by cases c<;>assumption
theorem qJQ(E:Env)(H:AH)(ats:List LN)(s x:LQ):Up H (xC E H ats s x):=by
 unfold xC;split;case h_2=>exact Up.none
 split;case h_2=>exact Up.none
 split;case h_2=>exact Up.none
 split;case h_2=>exact Up.none
 refine Up.bif (Up.bif Up.same ?_) Up.none;split
 ·exact Up.new
 ·refine Up.bif ?_ (Up.bif (Up.nj λH' h=>lI h) ?_)
  ·split
   ·exact Up.bif Up.move Up.none
   exact Up.none
  split
  ·exact Up.new
  exact Up.none
 exact Up.none
theorem qBm(E:Env)(H:AH)(ats:List LN)(p l:LQ):Up H (wW E H ats p l):=by unfold wW;exact Up.none
theorem qJM(E:Env)(H:AH)(e:LN)(b:LJ):Up H (mY E H e b):=by
 unfold mY;split
 ·exact Up.bif Up.new Up.none
 exact Up.none
theorem qJN(E:Env)(H:AH)(b:Builtin)(ats:List LN)(y:LA):Up H (wJ E H b ats y):=by
 unfold wJ;split
 ·split
  ·exact qJQ _ _ _ _ _
  exact Up.none
 ·split<;>first|exact Up.one|exact Up.none
 ·split<;>first|exact Up.one|exact Up.none
 ·split
  ·exact Up.same
  ·exact Up.bif Up.same Up.none
  exact Up.none
 ·split
  ·exact qBm _ _ _ _ _
  exact Up.none
 ·split
  ·unfold qE1;split
   ·exact Up.none
   split
   ·exact Up.none
   split;case h_2=>exact Up.none
   split;case h_2=>exact Up.none
   split
   ·exact Up.none
   refine Up.bif Up.same ?_;split
   ·exact Up.nj λH' h=>lI h
   exact Up.none
  exact Up.none
 ·split
  ·unfold qAJ;split
   ·exact Up.none
   split
   ·exact Up.none
   split;case h_2=>exact Up.none
   split;case h_2=>exact Up.none
   refine Up.bif Up.same ?_;split
   ·exact Up.nj λH' h=>lI h
   exact Up.none
  exact Up.none
 ·split
  ·exact Up.nj λH' h=>qGm h
  exact Up.none
 ·exact Up.bif Up.one Up.none
 ·exact Up.bif Up.one Up.none
 ·split
  ·exact Up.same
  exact Up.none
 exact Up.none
theorem qC8(E:Env)(H:AH)(f:LO)(h:LA):Up H (nB E H f h):=by
 unfold nB;split
 ·exact Up.same
 exact Up.none
theorem qMD(E:Env)(H:AH)(f:LO)(h:LA):Up H (nQ E H f h):=by
 unfold nQ;split
 ·exact Up.same
 unfold qWi;split
 ·split
  ·refine Up.bif ?_ ?_
   ·unfold qBC;exact Up.none
   split
   ·exact Up.one
   exact Up.none
  exact Up.none
 ·split
  ·exact Up.bif Up.same Up.none
  exact Up.none
 refine Up.bif ?_ Up.none;split
 ·exact Up.one
 exact Up.none
theorem qSR(E:Env)(fr:Fr)(H:AH)(c:Call):Up H (kX E fr H c):=by
 unfold kX;split
 ·exact Up.none
 split
 ·exact qJN _ _ _ _ _
 ·split
  ·split
   ·exact qC8 _ _ _ _
   exact Up.none
  exact Up.none
 split
 ·exact qMD _ _ _ _
 ·split
  ·exact Up.bif Up.same Up.none
  exact Up.none
 ·split
  ·split
   ·exact qC8 _ _ _ _
   exact Up.none
  exact Up.none
 ·split
  ·simp only;split
   ·split
    ·exact qC8 _ _ _ _
    exact Up.none
   exact Up.none
  exact Up.none
 exact Up.none
theorem qDB(E:Env)(fr:Fr)(o:Oper)(H:AH):Up H (jH E fr o H):=by
 unfold jH;split;all_goals try(split<;>first|exact Up.one|exact Up.none|exact Up.same|exact Up.new|skip)
 all_goals try first|exact Up.one|exact Up.none|exact Up.new|exact qSR _ _ _ _
 ·unfold yN;split
  ·split
   ·refine Up.bif ?_ Up.none;intro ar H' h;simp only[aa]at h;obtain⟨_,_,h⟩:=h;cases h;exact cx _
   exact Up.none
  exact Up.none
 ·exact Up.nj λH' h=>qGP h
 ·exact Up.bif Up.one Up.none
 ·split
  ·exact qJM _ _ _ _
  exact Up.one
 ·exact Up.bif Up.one Up.none
 ·unfold gV;split
  ·split
   ·exact Up.bif Up.new Up.none
   exact Up.none
  exact Up.none
 ·split<;>first|exact Up.one|exact Up.none
 ·split<;>first|exact Up.one|exact Up.none
 ·split
  ·exact Up.bif Up.one Up.none
  exact Up.none
 ·exact Up.nj λH' h=>sV h
 ·exact Up.nj λH' h=>sV h
 ·split
  ·exact Up.new
  exact Up.none
 ·unfold qA1;split
  ·split
   ·exact Up.bif Up.write Up.same
   exact Up.none
  exact Up.none
 split
 ·exact Up.one
 ·exact Up.bif Up.one Up.none
 exact Up.none
def rX(ih:Cmd->AH->xM):Prop:=∀cmd H out H',ih cmd H=some (out,H')->H.next<=H'.next
theorem qC2(hu:rX ih)(h:jA E ih fr o H=some (v,H')):H.next<=H'.next:=by
 unfold jA at h;split at h
 ·cases h
 ·rename_i y;cases h;exact qDB _ _ _ _ _ _ y
 ·rename_i y;cases h;exact qDB _ _ _ _ _ _ y
 ·cases h
 ·rename_i y;split at h
  ·rename_i e;cases h;exact lT (qDB _ _ _ _ _ _ y) (hu _ _ _ _ e)
  cases h
 rename_i y;split at h
 ·rename_i e;cases h;exact lT (qDB _ _ _ _ _ _ y) (hu _ _ _ _ e)
 cases h
theorem qHP(hu:rX ih)(h:yM E ih fr o H=some (v,H')):H.next<=H'.next:=by
 unfold yM at h;split at h
 ·rename_i e;cases y:fr.rd with
  |true=>rw[y]at h;cases h
  |false=>rw[y]at h;cases h;exact qDB _ _ _ _ _ _ e
 exact qC2 hu h
theorem qP0(hu:rX ih){all:LB}(h:pH E ih ts all i fr o H=some (v,H')):H.next<=H'.next:=by
 unfold pH at h;simp only at h;split at h
 ·rename_i g Q e;have:=qC2 hu e;cases y:((Nat.ble H.next Q.low||((qV all i ts).isEmpty&&(ts.any (λt=>Nat.beq t.1 i&&wI fr o t.2)||kK all ts i H.next Q.low)))&&(qV all i ts).all (λb=>Nat.blt b H.next||Nat.ble Q.next b))with
  |false=>rw[y]at h;simp at h
  |true=>rw[y,ai]at h;cases h;exact this
 cases h
theorem kZ{E:Env}{ih:Cmd->AH->xM}(hu:rX ih){all:LF}{draw:Bool}{ts:List (Nat×Nat)}:∀{os:LB} {i:Nat} {fr y:Fr} {H H':AH},
  zY E ih all draw ts os i fr H=some (y,H')->H.next<=H'.next
 | [],i,fr,y,H,H',h=>by simp[zY]at h;rw[h.2];exact vP _
 | o::os,i,fr,y,H,H',h=>by
  simp only[zY]at h
  split at h
  ·cases h
  ·split at h
   ·exact kZ hu h
   cases h
  split at h
  ·cases h
  rename_i v H1 e
  split at h
  ·cases h
  refine lT ?_ (kZ hu h)
  cases draw with
  |true=>exact qP0 hu e
  |false=>exact qHP hu e
variable{out:Out}
theorem qLN(hu:rX ih){f:LM}{params:List Tmp}{assign b:Code}(h:eF E ih fr f params assign b H=some (out,H')):H.next<=H'.next:=by
 unfold eF at h;split at h
 ·split at h
  ·rename_i e;have y:H.next<=_:=lT (cx _) (hu _ _ _ _ e);split at h
   ·split at h
    ·cases h
    split at h
    ·cases h;exact y
    have g:=hu _ _ _ _ h;exact lT y g
   cases h
  cases h
 cases h
theorem qLK(hu:rX ih){l:Nat}{args:LA}(h:gU E ih l args H=some (out,H')):H.next<=H'.next:=by
 unfold gU at h;split at h
 ·split at h
  ·split at h
   ·rename_i e;have p:=hu _ _ _ _ e;split at h
    ·split at h
     ·rename_i y;have g:=hu _ _ _ _ y;split at h
      ·cases h;exact lT p g
      cases h
     cases h
    cases h
   cases h
  cases h
 cases h
variable{rs:List ResultVar}
theorem tE(h:qDS E rs fr H=some (out,H')):H'=H:=by unfold qDS at h;grind
theorem qHq(hu:rX ih){g:LO}{xs:LA}(h:qED E ih rs g xs fr H=some (out,H')):H.next<=H'.next:=by
 unfold qED at h;split at h
 ·split at h
  ·split at h
   ·rename_i y;rw[tE h];exact hu _ _ _ _ y
   ·rename_i y;rw[tE h];exact hu _ _ _ _ y
   cases h
  cases h
 cases h
theorem e8(hu:rX ih):∀{c:Code} {fr y:Fr} {H H':AH} {d:LO×LA} {b:Code},gN E ih c fr H=some (d,y,H',b)->H.next<=H'.next:=by
 intro c;induction c with
 | seq a b _ e=>
  intro fr y H H' d l h;cases a with
  | region id ops draw=>
   simp only[gN]at h;split at h
   ·rename_i g;exact lT (kZ hu g) (e h)
   cases draw with
   |true=>cases h
   | false=>
    simp only[bc]at h;split at h
    ·split at h
     ·rename_i g;split at h
      ·cases h;exact kZ hu g
      cases h
     cases h
    cases h
  |_=>simp[gN]at h
 |_=>intro fr y H H' d l h;simp[gN]at h
theorem qME(hu:rX ih)(h:qAH E ih rs c fr H=some (out,H')):H.next<=H'.next:=by
 unfold qAH at h;split at h
 ·rename_i g;have e:=e8 hu g;split at h
  ·rename_i y;exact lT e (lT (hu _ _ _ _ y) (qHq hu h))
  ·rename_i y;exact lT e (lT (hu _ _ _ _ y) (qHq hu h))
  cases h
 cases h
theorem qLl(hu:rX ih):rX (body E ih):=by
 intro cmd H out H' h;unfold body at h;split at h
 ·split at h
  ·cases h;exact vP _
  ·cases h;exact vP _
  ·cases h;exact vP _
  ·cases h;exact vP _
  ·split at h
   ·rename_i y;exact lT (hu _ _ _ _ y) (hu _ _ _ _ h)
   exact hu _ _ _ _ h
  ·split at h
   ·exact hu _ _ _ _ h
   ·exact hu _ _ _ _ h
   cases h
  ·split at h
   ·rename_i e l H1 y;cases g:Nat.beq e _ with
    |true=>rw[g,ai]at h;cases h;exact hu _ _ _ _ y
    |false=>rw[g,bc]at h;cases h;exact hu _ _ _ _ y
   exact hu _ _ _ _ h
  ·split at h
   ·rename_i y;exact lT (hu _ _ _ _ y) (hu _ _ _ _ h)
   exact hu _ _ _ _ h
  ·exact hu _ _ _ _ h
  ·split at h
   ·rename_i y;cases h;exact kZ hu y
   rename_i draw _ _;cases draw with
   |false=>cases h
   | true=>
    simp only[ai]at h;split at h
    ·split at h
     ·rename_i y;cases h;exact kZ hu y
     split at h
     ·rename_i y;cases h;exact kZ hu y
     split at h
     ·rename_i y;cases h;exact kZ hu y
     cases h
    cases h
  ·exact qLN hu h
  cases h
 ·
  -- a call
  split at h
  ·split at h
   ·split at h
    ·rename_i y;split at h
     ·cases h;exact hu _ _ _ _ y
     ·cases h;exact hu _ _ _ _ y
     cases h
    ·rename_i y;split at h
     ·cases h;exact hu _ _ _ _ y
     ·cases h;exact hu _ _ _ _ y
     cases h
    ·exact qME hu h
    cases h
   cases h
  cases h
 exact qLK hu h
theorem qKi(E:Env):∀n,rX (qQ7 E n)
 |0=>λ_ _ _ _ h=>by cases h
 |n+1=>qLl (qKi E n)
def qIp(ops:LF)(fr:Fr)(H:AH)(h:Fr)(H':AH)(o:Oper):Prop:=
 vU ops fr o=some false/\yI fr o.dst (.tuple #[])=some h/\H'=H
def qIq(E:Env)(ih:Cmd->AH->xM)(W:LC)(ops:LF)(fr:Fr)(H:AH)(h:Fr)(H':AH)(o:Oper)(v:LQ)(Q:AH):Prop:=
 vU ops fr o=some true/\jA E ih fr o (vI H W)=some (v,Q)/\H'=jV H Q W/\yI fr o.dst v=some h
def Tg(ts:List (Nat×Nat))(fr:Fr)(o:Oper)(i b:Nat):Prop:=(i,b)∈ts/\wI fr o b=true
def zCi(ops:LF)(ts:List (Nat×Nat))(i n lo:Nat):Prop:=kD ops.toList i=true∨(xW ops.toList i=false/\∀b,lo<=b->b<n->(i,b)∈ts)
def NF(ts:List (Nat×Nat))(Hs:Nat->AH)(i:Nat):Prop:=(∃h,(i,h)∈ts)/\∀b,b<(Hs i).next->(i,b)∉ts->(Hs (i+1)).blocks.get b=(Hs i).blocks.get b
def TS(ts:List (Nat×Nat))(ops:LF)(da:Nat->Fr)(i b:Nat):Prop:=∃o,ops[i]? = some o/\Tg ts (da i) o i b
theorem qJS{c:Call}(h:qE5 fr c=some b):c.callee=.builtin .append/\∃a y x sp l e,c.args.toList=[.tmp a,y]/\fr.t.get a=some (.slice (some ⟨b,x,sp⟩) l e):=by unfold qE5 at h;grind
theorem iS(h:wI fr o b=true):(∃t a x c s,o.op=.store t (.tmp a) x/\fr.t.get a=some (.pointer (some ⟨b,c,s⟩)))∨∃c,o.op=.call c/\qE5 fr c=some b:=by
 unfold wI at h;split at h
 ·rename_i t a x y;split at h
  ·rename_i g c s e;have:=vW h;grind
  cases h
 ·rename_i c y;split at h
  ·simp_all
  cases h
 cases h
theorem qD1{ats:List LN}{l q:Nat}{sp:Option Nat}{x:LQ}(h:xC E H ats (.slice (some ⟨b,i,sp⟩) l q) x=some (ar,H')):(∃v,ar=.val v)/\∀c,c<H.next->c≠b->H'.blocks.get c=H.blocks.get c:=by
 unfold xC at h;split at h;case h_2=>cases h
 rename_i p;cases p;split at h;case h_2=>cases h
 split at h;case h_2=>cases h
 split at h;case h_2=>cases h
 rw[jD]at h;split at h;case isFalse=>cases h
 rw[zI]at h;split at h
 ·cases h;exact⟨⟨_,rfl⟩,λ_ _ _=>rfl⟩
 split at h
 ·rename_i he;cases he
 ·rename_i he;cases he;rw[jD]at h;split at h
  ·split at h
   ·rw[gS,zI]at h;split at h;case isFalse=>cases h
    rw[zI]at h;split at h;case isFalse=>cases h
    cases h;refine⟨⟨_,rfl⟩,λc g e=>?_⟩;rw[AH.kv,bf (by omega),bf e]
   cases h
  rw[jD]at h;split at h
  ·simp only[aa]at h;obtain⟨H1,y,h⟩:=h;cases h;refine⟨⟨_,rfl⟩,λc g e=>?_⟩;unfold AH.kR at y;split at y
   ·simp only[aa]at y;obtain⟨cs',_,rfl⟩:=y;rw[AH.ey,bf e]
   cases y
  split at h
  ·cases h;refine⟨⟨_,rfl⟩,λc g e=>?_⟩;rw[AH.get_new,bf (by omega)]
  cases h
 cases h
structure Trace (E:Env) (ih:Cmd->AH->xM) (ts:List (Nat×Nat)) (ops:LF) (da:Nat->Fr) (Hs:Nat->AH):Prop where
 step:∀i,i<ops.size->∃o,ops[i]? = some o/\(qIp ops (da i) (Hs i) (da (i+1)) (Hs (i+1)) o ∨
  ∃v Q,qIq E ih (qV ops.toList i ts) ops (da i) (Hs i) (da (i+1)) (Hs (i+1)) o v Q/\
   ((Hs i).next<=Q.low∨(qV ops.toList i ts=[]/\((∃b,Tg ts (da i) o i b)∨zCi ops ts i (Hs i).next Q.low)))/\∀b∈qV ops.toList i ts,b<(Hs i).next∨Q.next<=b)
def qBu(E:Env)(ih:Cmd->AH->xM)(ts:List (Nat×Nat))(ops:LF)(da:Nat->Fr)(Hs:Nat->AH)(i:Nat):Prop:=
 ∃o v Q,ops[i]? = some o/\qIq E ih (qV ops.toList i ts) ops (da i) (Hs i) (da (i+1)) (Hs (i+1)) o v Q/\¬(Hs i).next<=Q.low
theorem qGK(E:Env)(ih:Cmd->AH->xM)(ts:List (Nat×Nat))(ops:LF):∀(os:LB) (i:Nat) (fr fr':Fr) (H H':AH),ops.toList.drop i=os->i<=ops.size->
    zY E ih ops true ts os i fr H=some (fr',H')->
    ∃ (da:Nat->Fr) (Hs:Nat->AH),da i=fr/\Hs i=H/\da ops.size=fr'/\Hs ops.size=H'/\∀j,i<=j->j<ops.size->∃o,ops[j]? = some o/\
      (qIp ops (da j) (Hs j) (da (j+1)) (Hs (j+1)) o∨∃v Q,qIq E ih (qV ops.toList j ts) ops (da j) (Hs j) (da (j+1)) (Hs (j+1)) o v Q/\
      ((Hs j).next<=Q.low∨(qV ops.toList j ts=[]/\((∃b,Tg ts (da j) o j b)∨zCi ops ts j (Hs j).next Q.low)))/\∀b∈qV ops.toList j ts,b<(Hs j).next∨Q.next<=b)
  | [],i,fr,fr',H,H',hd,hi,h=>by
    simp[zY]at h
    have hn:i=ops.size:=by
      have:=congrArg List.length hd
      simp at this;omega
    refine⟨λ_=>fr,λ_=>H,rfl,rfl,h.1,h.2,λj h1 h2=>by omega⟩
  | o :: os, i, fr,fr',H,H',hd,hi,h=>by
    have ho:ops[i]? = some o:=by
      have:=congrArg (·[0]?) hd
      simpa using this
    have hlt:i<ops.size:=(cu.1 ho).1
    have hd':ops.toList.drop (i+1)=os:=by
      have:=congrArg (List.drop 1) hd
      rw[gj]at this
      simpa using this
    have key:∀(fr1:Fr) (H1:AH),zY E ih ops true ts os (i+1) fr1 H1=some (fr',H')->
        (qIp ops fr H fr1 H1 o∨∃v Q,qIq E ih (qV ops.toList i ts) ops fr H fr1 H1 o v Q/\(H.next<=Q.low∨(qV ops.toList i ts=[]/\((∃b,Tg ts fr o i b)∨zCi ops ts i H.next Q.low)))/\∀b∈qV ops.toList i ts,b<H.next∨Q.next<=b)->
        ∃ (da:Nat->Fr) (Hs:Nat->AH),da i=fr/\Hs i=H/\da ops.size=fr'/\Hs ops.size=H'/\∀j,i<=j->j<ops.size->∃o,ops[j]? = some o/\
          (qIp ops (da j) (Hs j) (da (j+1)) (Hs (j+1)) o∨∃v Q,qIq E ih (qV ops.toList j ts) ops (da j) (Hs j) (da (j+1)) (Hs (j+1)) o v Q/\
          ((Hs j).next<=Q.low∨(qV ops.toList j ts=[]/\((∃b,Tg ts (da j) o j b)∨zCi ops ts j (Hs j).next Q.low)))/\∀b∈qV ops.toList j ts,b<(Hs j).next∨Q.next<=b):=by
      intro fr1 H1 hrun hfact
      obtain⟨da,Hs,e1,e2,e3,e4,e5⟩:=qGK E ih ts ops os (i+1) fr1 fr' H1 H' hd' (by omega) hrun
      refine⟨λj=>if j=i then fr else da j,λj=>if j=i then H else Hs j,by simp,by simp,?_,?_,?_⟩
      ·grind
      ·grind
      ·grind
    simp only[zY]at h
    split at h
    ·cases h
    · rename_i hw
      split at h
      · rename_i fr1 hp
        exact key fr1 H h (.inl ⟨hw,hp,rfl⟩)
      ·cases h
    · rename_i hw
      simp only[ai]at h
      split at h
      ·cases h
      · rename_i v H1 h1
        split at h
        ·cases h
        · rename_i fr1 hp
          unfold pH at h1
          simp only at h1
          split at h1
          · rename_i v1 Q hx
            cases hb:((Nat.ble H.next Q.low||((qV ops.toList i ts).isEmpty&&(ts.any (λt=>Nat.beq t.1 i&&wI fr o t.2)||kK ops.toList ts i H.next Q.low)))&&(qV ops.toList i ts).all (λb=>Nat.blt b H.next||Nat.ble Q.next b))with
            |false=>rw[hb]at h1;simp at h1
            | true=>
              rw[hb,ai]at h1
              cases h1
              rw[aE,dt,aE,dt]at hb
              obtain⟨hb,hb3⟩:=hb
              refine key fr1 _ h (.inr ⟨v,Q,⟨hw,hx,rfl,hp⟩,?_,λb hm=>?_⟩)
              rotate_left
              ·simp_all
              rcases hb with hb|⟨hb1,hb2⟩
              ·simp_all
              · refine .inr ⟨by simpa using hb1,?_⟩
                rcases hb2 with hb2|hb2
                · rw[ke]at hb2
                  obtain⟨⟨a,b⟩,hm,he⟩:=hb2
                  rw[aE]at he
                  have:a=i:=vW he.1
                  subst this
                  exact .inl ⟨b,hm,he.2⟩
                ·exact .inr (qF4 hb2)
          ·cases h1
section
variable{E:Env}{ih:Cmd->AH->xM}{ts:List (Nat×Nat)}{ops:LF}{da:Nat->Fr}{Hs:Nat->AH}
structure TF (E:Env) (ih:Cmd->AH->xM) (ts:List (Nat×Nat)) (ops:LF) (da:Nat->Fr) (Hs:Nat->AH):Prop where
 next:∀i,i<ops.size->(Hs i).next<=(Hs (i+1)).next
 wf:∀i,i<=ops.size->∀b k,(Hs i).blocks.get b=some k->k.root<=b/\b<(Hs i).next
 pure:∀i,i<ops.size->¬qBu E ih ts ops da Hs i->∀b,b<(Hs i).next->(Hs (i+1)).blocks.get b=(Hs i).blocks.get b
 low:∀i,i<ops.size->(Hs (i+1)).low<=(Hs i).low
 bars:∀i,i<ops.size->qBu E ih ts ops da Hs i->qV ops.toList i ts=[]/\(NF ts Hs i∨kD ops.toList i=true)
 nb:∀i,i<ops.size->qBu E ih ts ops da Hs i->xW ops.toList i=false
theorem Trace.next(hu:rX ih)(y:Trace E ih ts ops da Hs)(e:i<ops.size):(Hs i).next<=(Hs (i+1)).next:=by
 obtain⟨o,_,h|⟨v,Q,h,_⟩⟩:=y.step i e
 ·rw[h.2.2];exact vP _
 rw[h.2.2.1];have:=qC2 hu h.2.1;exact this
theorem Trace.ni(hu:rX ih)(tr:Trace E ih ts ops da Hs){i:Nat}:∀{j:Nat},i<=j->j<=ops.size->(Hs i).next<=(Hs j).next
  | 0, h1, _ => by have:i=0:=by omega
                   subst this;exact vP _
  |j+1,h1,h2=>by
   by_cases h:i=j+1
   ·subst h;exact vP _
   ·exact lT (tr.ni hu (by omega) (by omega)) (tr.next hu (by omega))
theorem qHQ{Q:AH}{p:LQ}{a:Tmp}{x:LM}(g:o.op=.store t (.tmp a) x)(l:fr.t.get a=some p)(h:jA E ih fr o H=some (v,Q)):∃u,kN E H t p u=some Q:=by
 have y:ev E fr (.tmp a)=some p:=l;obtain⟨u,hu⟩:∃u,jH E fr o H=(kN E H t p u).map (λH'=>(AR.skip,H'))∨jH E fr o H=none:=by
  unfold jH;simp only[g,y];cases ev E fr x with
  |none=>exact⟨.nilIface,.inr rfl⟩
  |some u=>cases u<;>first|exact⟨_,.inl rfl⟩|exact⟨.nilIface,.inr rfl⟩
 unfold jA at h;rcases hu with hu|hu
 ·rw[hu]at h;cases e:kN E H t p u with
  |none=>rw[e]at h;simp at h
  |some H1=>rw[e]at h;simp only[aj,oI,dk]at h;exact⟨u,by rw[e,h.2]⟩
 rw[hu]at h;simp at h
theorem qGL(hu:rX ih)(tr:Trace E ih ts ops da Hs){σ0:vO}{w0:LP}{tmps0:LD}(he:EOk E)(hc:∀f args H v H',ih (.call f args) H=some (.val v,H')->xK E f args H v H')(hro:∀l args H v H',ih (.round l args) H=some (.val v,H')->yF E l args H v H')(hr:HR E σ0 (Hs 0) w0)(hfr:sO σ0 (da 0) tmps0)(hf:yU σ0 (Hs 0).next (Hs ops.size).next)(b:Frame):TF E ih ts ops da Hs/\∃σ' w',Step E σ0 (Hs 0) w0 σ' (Hs ops.size) w':=by
 have chain : ∀ i, i <= ops.size -> ∃ σi wi tmpsi,Step E σ0 (Hs 0) w0 σi (Hs i) wi/\sO σi (da i) tmpsi/\
     ∀ j,j<i->(∀b k,(Hs j).blocks.get b=some k->k.root<=b/\b<(Hs j).next)/\(Hs (j+1)).low<=(Hs j).low/\
       (¬qBu E ih ts ops da Hs j->∀b,b<(Hs j).next->(Hs (j+1)).blocks.get b=(Hs j).blocks.get b)/\
       (∀o v Q,ops[j]? = some o->qIq E ih (qV ops.toList j ts) ops (da j) (Hs j) (da (j+1)) (Hs (j+1)) o v Q->∀b,b<(Hs j).next->b<Q.low->(Hs (j+1)).blocks.get b=(Hs j).blocks.get b):=by
   intro i
   induction i with
   |zero=>intro _;exact⟨σ0,w0,tmps0,Step.refl hr,hfr,λj hj=>by omega⟩
   | succ i IH =>
     intro hi
     obtain⟨σi,wi,tmpsi,st,hfi,hall⟩:=IH (by omega)
     have hri:=st.hr
     have hfree:yU σi (Hs i).next (Hs (i+1)).next:=by
       have h1:yU σi (Hs i).next (Hs ops.size).next:=hf.split st.ext st.next
       exact λb h2 h3=>h1 b h2 (bp h3 (tr.ni hu (by omega) (vP _)))
     obtain⟨o,ho,hx⟩:=tr.step i (by omega)
     rcases hx with hx|⟨v,Q,hx,hpure⟩
     · obtain⟨h1,h2,h3⟩:=hx
       refine⟨σi,wi,oG tmpsi o.dst undef,by rw[h3];exact st,cR hfi h2 (.tuple .nil),λj hj=>?_⟩
       by_cases e:j=i
       · subst e
         refine⟨hri.wf,by rw[h3];exact vP _,λ_ b _=>by rw[h3],λo' v' Q' _ _ b _ _=>by rw[h3]⟩
       ·exact hall j (by omega)
     · obtain ⟨h1,h2,h3,h4⟩:=hx
       have hwt:=mB (tmps:=tmpsi) h1 (λj want _ d _ v hv=>hfi.2 d v hv)
       obtain⟨σ',w',v',g1,g2,_⟩:=qC1 he hc hro (λf args H v H' h=>hu _ _ _ _ h) (λf args H v H' h=>hu _ _ _ _ h) (ops:=ops) (i:=i) (tmps:=tmpsi) h2 (hri.pb _)
         (by have e:Q.next=(Hs (i+1)).next:=by rw[h3];rfl
             intro b q1 q2;exact hfree b q1 (by omega))
         (λx _ v hv=>rA (a:=⟨tmpsi,[]⟩) he hri hfi hv) ho hwt b [] [] [] []
       by_cases hp:(Hs i).next<=Q.low
       · have st2:Step E σi (Hs i) wi σ' (Hs (i+1)) w':=by
           rw[h3]
           exact Step.restore hri (by have e:Q.next=(Hs (i+1)).next:=by rw[h3];rfl
                                      rw[e];exact hfree) g2 hp
         refine⟨σ',w',oG tmpsi o.dst v',st.trans st2,cR (hfi.mono (st2.le hfree)) h4 g1,λj hj=>?_⟩
         by_cases e:j=i
         · subst e
           have key:∀c,c<(Hs j).next->(Hs (j+1)).blocks.get c=(Hs j).blocks.get c:=by
             intro c hcn
             have p2:=g2.p2 (hri.pb _) hp c hcn
             rw[h3]
             show(yV Q.blocks (Hs j).blocks _).get c=_
             rw[wS]
             split
             ·rfl
             · rename_i hW
               rw[p2]
               show(lW (Hs j).blocks _).get c=_
               rw[yZ,bf hW]
           exact⟨hri.wf,st2.low,λ_ c hcn=>key c hcn,λ_ _ _ _ _ c hcn _=>key c hcn⟩
         ·exact hall j (by omega)
       · have hW:qV ops.toList i ts=[]:=by
           rcases hpure with h|⟨h,_⟩
           ·exact absurd h hp
           ·exact h
         rw[hW]at g2 h3
         have st2:Step E σi (Hs i) wi σ' (Hs (i+1)) w':=by
           rw[h3];exact g2.lower
         refine⟨σ',w',oG tmpsi o.dst v',st.trans st2,cR (hfi.mono (st2.le hfree)) h4 g1,λj hj=>?_⟩
         by_cases e:j=i
         · subst e
           refine⟨hri.wf,st2.low,λhb=>?_,λo' v' Q' ho' hq c hcn hcl=>?_⟩
           ·exact absurd ⟨o,v,Q,ho,⟨h1,h2,by rw[hW];exact h3,h4⟩,hp⟩ hb
           · rw[ho]at ho';cases ho'
             have:=h2.symm.trans hq.2.1
             cases this
             rw[h3]
             exact g2.si (hri.pb _) c hcn hcl
         ·exact hall j (by omega)
 obtain⟨σn,wn,tmpsn,stn,_,hall⟩:=chain ops.size (vP _);have hstore:∀i,i<ops.size->qBu E ih ts ops da Hs i->qV ops.toList i ts=[]->∀bt,TS ts ops da i bt->∀b,b<(Hs i).next->b≠bt->(Hs (i+1)).blocks.get b=(Hs i).blocks.get b:=by
  rintro i hi hbar hW bt hbt c hclt hne;obtain⟨o,v,Q,ho,⟨h1,h2,h3,h4⟩,hnp⟩:=hbar;obtain⟨o',g1,_,g4⟩:=hbt;rw[ho]at g1;cases g1;rw[hW]at h2 h3;rcases iS g4 with⟨t,a,x,cc,s,g2,g3⟩|⟨cl,g2,g3⟩;case inr=>
   obtain⟨k1,a,y,x,sp,l,cp,k2,k3⟩:=qJS g3;have hap:∃yv,jH E (da i) o (vI (Hs i) [])=xC E (vI (Hs i) []) cl.argTypes.toList (.slice (some ⟨bt,x,sp⟩) l cp) yv∨jH E (da i) o (vI (Hs i) [])=none:=by
    unfold jH;simp only[g2,kX,k1,k2];have hta:ev E (da i) (.tmp a)=some (.slice (some ⟨bt,x,sp⟩) l cp):=k3;simp only[rS,hta];cases hy:ev E (da i) y with
    |none=>exact⟨.nilIface,.inr (by simp)⟩
    |some yv=>exact⟨yv,.inl (by simp[wJ])⟩
   obtain⟨yv,hap⟩:=hap;unfold jA at h2;rcases hap with hap|hap
   ·rw[hap]at h2;cases hx:xC E (vI (Hs i) []) cl.argTypes.toList (.slice (some ⟨bt,x,sp⟩) l cp) yv with
    |none=>rw[hx]at h2;cases h2
    |some r=>obtain⟨ar,H1⟩:=r;obtain⟨⟨v1,rfl⟩,hfr⟩:=qD1 hx;rw[hx]at h2;cases h2;rw[h3];exact hfr c hclt hne
   ·rw[hap]at h2;cases h2
  obtain⟨u,hst⟩:=qHQ g2 g3 h2;unfold kN at hst;split at hst
  ·rename_i ti bb oo heq ht;cases ht;simp only[zI]at hst;split at hst;case isFalse=>cases hst
   unfold AH.kR at hst;split at hst
   ·simp only[aa]at hst;obtain⟨cs',_,rfl⟩:=hst;rw[h3];simp only[jV,yV];rw[AH.ey,bf hne];rfl
   ·cases hst
  ·cases hst
 have hbars:∀i,i<ops.size->qBu E ih ts ops da Hs i->qV ops.toList i ts=[]/\(NF ts Hs i∨kD ops.toList i=true)/\xW ops.toList i=false:=by
  rintro i hi hbar0;obtain⟨o,v,Q,ho,hrun,hnp⟩:=hbar0;have hbar:qBu E ih ts ops da Hs i:=⟨o,v,Q,ho,hrun,hnp⟩;obtain⟨o',ho',hx⟩:=tr.step i hi;rw[ho]at ho';cases ho';rcases hx with hx|⟨v',Q',hx,hp⟩
  ·exact absurd (hrun.1.symm.trans hx.1) (by simp)
  ·have:=hx.2.1.symm.trans hrun.2.1;cases this;obtain⟨q1,q2⟩:=hp.1.resolve_left hnp;refine⟨q1,?_⟩;rcases q2 with⟨b,hb⟩|q2|⟨q2,q3⟩
   ·refine⟨.inl ⟨⟨b,hb.1⟩,λc hc hn=>hstore i hi hbar q1 b ⟨o,ho,hb⟩ c hc (λe=>hn (e▸hb.1))⟩,?_⟩;have g1':ops.toList[i]? = some o:=by simpa using ho
    rcases iS hb.2 with⟨t,a,x,cc,s,g2,_⟩|⟨c,g2,_⟩
    ·simp only[xW,g1',g2,iI]
    ·simp only[xW,g1',g2,iI]
   ·exact⟨.inr q2,qHJ q2⟩
   ·refine⟨.inl ⟨⟨_,q3 _ (vP _) (by omega)⟩,λc hc hn=>(hall i hi).2.2.2 o v Q ho hrun c hc ?_⟩,q2⟩;rcases ir c Q.low with h|h
    ·exact h
    ·exact absurd (q3 c h hc) hn
 refine⟨⟨λi hi=>tr.next hu hi,?_,λi hi=>(hall i hi).2.2.1,λi hi=>(hall i hi).2.1,λi hi hb=>⟨(hbars i hi hb).1,(hbars i hi hb).2.1⟩,λi hi hb=>(hbars i hi hb).2.2⟩,σn,wn,stn⟩;intro i hi;by_cases e:i=ops.size
 ·subst e;exact stn.hr.wf
 ·exact(hall i (by omega)).1
end
theorem qLy{ms:LC}(h:i≠j):rO ms i j=rO ms j i:=by
 unfold rO;by_cases y:i<j
 ·have l:Nat.blt i j=true:=bL y;have g:Nat.blt j i=false:=by
   cases e:Nat.blt j i with
   |false=>rfl
   | true => have:j<i:=oA e
             omega
  rw[l,g];rfl
 ·have l:Nat.blt j i=true:=bL (show j+1<=i by omega);have g:Nat.blt i j=false:=by
   cases e:Nat.blt i j with
   |false=>rfl
   | true => have:i<j:=oA e
             omega
  rw[l,g];rfl
def qDh(Hs:Nat->AH):Nat->Nat->Nat->Option ABlk
 |0,t,b=>if b<(Hs t).next then(Hs t).blocks.get b else none
 |s+1,t,b=>if b<(Hs t).next then(Hs t).blocks.get b else qDh Hs s (t+1) b
def rV(Hs:Nat->AH)(n t b:Nat):Option ABlk:=qDh Hs (n-t) t b
section
variable{Hs:Nat->AH}{n:Nat}
theorem o9{t:Nat}(h:b<(Hs t).next):rV Hs n t b=(Hs t).blocks.get b:=by unfold rV;cases n-t<;>simp[qDh,h]
theorem qAI{t:Nat}(y:t<n)(h:¬b<(Hs t).next):rV Hs n t b=rV Hs n (t+1) b:=by
 unfold rV;have:n-t=(n-(t+1))+1:=by omega
 rw[this];simp[qDh,h]
theorem uN(h:∀i j,i<=j->j<=n->(Hs i).next<=(Hs j).next){k b:Nat}(y:k<n)(l:(Hs k).next<=b)(g:b<(Hs (k+1)).next):∀(d t:Nat),t+d=k->rV Hs n t b=(Hs (k+1)).blocks.get b
 |0,t,e=>by
  have:t=k:=by omega
  subst this;rw[qAI y (by omega),o9 g]
 |d+1,t,e=>by have:=h t k (by omega) (by omega);rw[qAI (by omega) (by omega)];exact uN h y l g d (t+1) (by omega)
theorem iG(y:∀i j,i<=j->j<=n->(Hs i).next<=(Hs j).next){b:Nat}(h:(Hs n).next<=b):∀(d t:Nat),t+d=n->rV Hs n t b=none
 |0,t,e=>by
  have:t=n:=by omega
  subst this;unfold rV;simp only[Nat.sub_self,qDh];rw[bf (by omega)]
 |d+1,t,e=>by have:=y t n (by omega) (vP _);rw[qAI (by omega) (by omega)];exact iG y h d (t+1) (by omega)
theorem qB2{b:Nat}:∀(d t:Nat),t+d=n->(Hs t).next<=b->b<(Hs n).next->∃k,t<=k/\k<n/\(Hs k).next<=b/\b<(Hs (k+1)).next
 |0,t,e,g,y=>by grind
 |d+1,t,e,g,y=>by
  by_cases h:b<(Hs (t+1)).next
  ·grind
  obtain⟨k,r,q,p,l⟩:=qB2 d (t+1) (by omega) (by omega) y;grind
end
variable{S:Nat->Prop}
section
variable{E:Env}{ih:Cmd->AH->xM}{ts:List (Nat×Nat)}{ops:LF}{da:Nat->Fr}{Hs:Nat->AH}
def m8(ops:LF)(m:Nat)(x:Tmp):Prop:=∃o,ops[m]? = some o/\o.dst=some x
def qDK(ops:LF)(S:Nat->Prop)(j:Nat)(x:Tmp):Prop:=(j=0∨∃m,j=m+1/\S m/\m8 ops m x)/\∀m,S m->m8 ops m x->m+1<=j
theorem qOZ{m:Nat}{x:Tmp}(h:m8 ops m x):m<ops.size:=by obtain⟨o,y,_⟩:=h;grind
theorem kO(hu:rX ih)(tr:Trace E ih ts ops da Hs)(tf:TF E ih ts ops da Hs){p b:Nat}(hb:b<(Hs p).next):∀{q:Nat},p<=q->q<=ops.size->
    (∀j,p<=j->j<q->qBu E ih ts ops da Hs j->NF ts Hs j/\(j,b)∉ts)->(Hs q).blocks.get b=(Hs p).blocks.get b
  | 0, h1, _, _ => by have:p=0:=by omega
                      subst this;rfl
  | q + 1,h1,h2,h=>by
    by_cases e:p=q+1
    ·subst e;rfl
    · have ih1:=kO hu tr tf hb (q:=q) (by omega) (by omega) λj g1 g2=>h j g1 (by omega)
      have hlt:b<(Hs q).next:=bp hb (tr.ni hu (by omega) (by omega))
      rw[←ih1]
      by_cases hbar:qBu E ih ts ops da Hs q
      · obtain⟨g1,g2⟩:=h q (by omega) (by omega) hbar
        exact g1.2 b hlt g2
      ·exact tf.pure q (by omega) hbar b hlt
theorem qDy(h:qBu E ih ts ops da Hs j):j<ops.size:=by obtain⟨o,_,_,y,_⟩:=h;grind
theorem iQ(r:TF E ih ts ops da Hs)(z:i<ops.size)(q:qBu E ih ts ops da Hs j)(y:j≠i)(l:xW ops.toList i=false)(g:rO (kS ops.toList) j i=false):NF ts Hs j/\∀p,(j,p)∈ts->p∈qV ops.toList i ts:=by
 rcases(r.bars j (qDy q) q).2 with h|h
 ·exact⟨h,λp u=>qCH u y g⟩
 have:=qHI h (j:=i) (by simpa using z) (λe=>y e.symm) l;rw[qLy (λe=>y e.symm)]at this;rw[this]at g;cases g
theorem qMO(e:TF E ih ts ops da Hs)(h:qBu E ih ts ops da Hs i)(p:qBu E ih ts ops da Hs j)(g:j≠i):rO (kS ops.toList) j i=true:=by
 cases l:rO (kS ops.toList) j i with
 |true=>rfl
 |false=>obtain⟨q,y⟩:=iQ e (qDy h) p g (e.nb i (qDy h) h) l;obtain⟨r,h3⟩:=q.1;have y:=y r h3;rw[(e.bars i (qDy h) h).1]at y;simp at y
structure Inv (E:Env) (ih:Cmd->AH->xM) (ts:List (Nat×Nat)) (ops:LF) (da:Nat->Fr) (Hs:Nat->AH) (σ0:vO) (w0:LP) (t:Nat) (S:Nat->Prop) (σ:vO) (w:LP) (tmps:LD):Prop where
 rn:t<=ops.size
 a1:∀j,j<t->qBu E ih ts ops da Hs j->S j
 a2:∀j,t<=j->qBu E ih ts ops da Hs j->¬S j
 a3:t=ops.size∨qBu E ih ts ops da Hs t
 down:∀j a,S j->Anc ops.toList a j->S a
 slt:∀j,S j->j<ops.size
 kq:∀b k L,rV Hs ops.size t b=some k->σ b=some L->∃o,w.heap[L.hS]? = some o/\m9 E σ L k.own k.obj o
 sep:∀b₁ b₂ k₁ k₂ L₁ L₂,rV Hs ops.size t b₁=some k₁->rV Hs ops.size t b₂=some k₂->k₁.own=true->σ b₁=some L₁->σ b₂=some L₂->b₁≠b₂->L₁.hS≠L₂.hS
 la:∀g,g<E.prog.globals.size->∃L,σ g=some L/\L.hS=g/\L.off=0
 free:∀j,j<ops.size->¬S j->∀b,(Hs j).next<=b->b<(Hs (j+1)).next->σ b=none
 ext:∀b,b<(Hs 0).next∨(Hs ops.size).next<=b->σ b=σ0 b
 qx:tmps.size=(da 0).sz
 af:∀j x v,j<=ops.size->qDK ops S j x->(da j).t.get x=some v->VR σ v (tmps.getD x undef)
 size:w0.heap.size<=w.heap.size
 tape:w.tape=w0.tape
 os:w.os=w0.os
 output:w.output=w0.output/\(E.laid=[]->w0.drawn<=w.drawn)
 frame:∀B,B<w0.heap.size->(∀b k L,(Hs 0).blocks.get b=some k->k.own=true->σ0 b=some L->(Hs ops.size).low<=k.root->L.hS≠B)->w.heap[B]? = w0.heap[B]?
 origin:∀b k L,rV Hs ops.size t b=some k->k.own=true->σ b=some L->w0.heap.size<=L.hS ∨
  ∃b₀ k₀ L₀,(Hs 0).blocks.get b₀=some k₀/\k₀.own=true/\σ0 b₀=some L₀/\L₀.hS=L.hS/\k₀.root=k.root
theorem qIJ(z:b9 ops.toList=true)(R:Trace E ih ts ops da Hs)(r:∀j a,S j->Anc ops.toList a j->S a)(K:∀j,S j->j<ops.size)(L:ops[i]? = some o)(N:¬S i)(g:∀a,Anc ops.toList a i->S a){x:Tmp}(l:x∈lS ops.toList o):∃j,j<=i/\qDK ops S j x/\(da j).t.get x=(da i).t.get x:=by
 have M:i<ops.size:=(cu.1 L).1;have G:ops.toList[i]? = some o:=by simpa using L
 have find:∀m,m<=i->∃j,j<=m/\(j=0∨∃p,j=p+1/\m8 ops p x)/\(∀p,p<m->m8 ops p x->p+1<=j)/\(da j).t.get x=(da m).t.get x:=by
  intro m;induction m with
  |zero=>intro _;exact⟨0,vP _,.inl rfl,λp h=>by omega,rfl⟩
  | succ m W=>
   intro I;obtain⟨j,O,C,h3,J⟩:=W (by omega);by_cases U:m8 ops m x
   ·grind
   refine⟨j,by omega,C,λp h V=>?_,?_⟩
   ·grind
   rw[J];obtain⟨q,F,l⟩:=R.step m (by omega);have y:q.dst≠some x:=λe=>U ⟨q,F,e⟩;have h:∃v,yI (da m) q.dst v=some (da (m+1)):=by
    rcases l with l|⟨v,Q,l,_⟩
    ·exact⟨_,l.2.1⟩
    exact⟨_,l.2.2.2⟩
   obtain⟨v,h⟩:=h;unfold yI at h;cases hd:q.dst with
   |none=>rw[hd]at h;rw[←du h]
   |some d=>
    rw[hd]at h y;simp only[jD]at h;split at h;case isFalse=>cases h
    rw[←du h];simp only[T.ch];grind
 have u:∀k,k≠i->m8 ops k x->rO (kS ops.toList) k i=true:=by rintro k y ⟨q,F,hd⟩;exact qAW z G (by simpa using F) y hd l
 obtain⟨j,O,C,h3,J⟩:=find i (vP _);refine⟨j,O,⟨?_,?_⟩,J⟩
 ·rcases C with C|⟨p,rfl,h⟩
  ·exact .inl C
  exact .inr ⟨p,rfl,g p ((bR (u p (by omega) h)).1 (by omega)),h⟩
 intro m I A;have y:m≠i:=λe=>N (e▸I);by_cases B:m<i
 ·exact h3 m B A
 exact absurd (r m i I ((bR (u m y A)).2 B)) N
theorem cO(C:b9 ops.toList=true)(tr:Trace E ih ts ops da Hs)(p:∀j a,S j->Anc ops.toList a j->S a)(I:ops[i]? = some o)(U:¬S i){σ σ':vO}(K:vO.le σ σ')(B:tmps.size=(da 0).sz)(A:(da i).sz=(da 0).sz)(X:∀j x v,j<=ops.size->qDK ops S j x->(da j).t.get x=some v->VR σ v (tmps.getD x undef)){v':LQ}(r:yI (da i) o.dst v=some (da (i+1)))(hv:VR σ' v v'):(∀j x u,j<=ops.size->qDK ops (λm=>S m∨m=i) j x->(da j).t.get x=some u->VR σ' u ((oG tmps o.dst v').getD x undef))/\(oG tmps o.dst v').size=(da 0).sz:=by
 have R:i<ops.size:=(cu.1 I).1;have N:ops.toList[i]? = some o:=by simpa using I
 constructor
 ·intro j x u hj J hu;by_cases z:o.dst=some x
  ·
   -- written here
   have M:m8 ops i x:=⟨o,I,z⟩;have O:j=i+1:=by
    have h1:=J.2 i (.inr rfl) M;rcases J.1 with V|⟨m,rfl,hm,h⟩
    ·omega
    rcases hm with hm|rfl
    ·by_cases l:m<i
     ·omega
     have g:m≠i:=λe=>U (e▸hm);obtain⟨q,G,y⟩:=h;have W:=qAW C N (show ops.toList[m]? = some q by simpa using G) g y (by unfold lS;simp[z]);exact absurd (p m i hm ((bR W).2 l)) U
    rfl
   subst O;rw[z]at r ⊢;unfold yI at r;simp only[jD]at r;split at r;case isFalse=>cases r
   rename_i l;rw[←du r]at hu;simp only[T.ch,dn,oI]at hu;subst hu;have L:x<tmps.size:=by rw[B,←A];exact l
   have:(oG tmps (some x) v').getD x undef=v':=by simp[oG,Array.getD,L]
   rw[this];exact hv
  have F:qDK ops S j x:=by
   refine⟨?_,λm hm h=>J.2 m (.inl hm) h⟩;rcases J.1 with V|⟨m,rfl,hm,h⟩
   ·exact .inl V
   refine .inr ⟨m,rfl,?_,h⟩;rcases hm with hm|rfl
   ·exact hm
   obtain⟨q,G,y⟩:=h;rw[I]at G;cases G;exact absurd y z
  have Z:=X j x u hj F hu;have:(oG tmps o.dst v').getD x undef=tmps.getD x undef:=by
   cases hd:o.dst with
   |none=>rfl
   |some d=>have g:¬d=x:=λe=>z (by rw[hd,e]);simp[oG,Array.getElem?_setIfInBounds,g]
  rw[this];exact Z.mono K
 cases hd:o.dst<;>simp[oG,B]
end
end Go.Am
