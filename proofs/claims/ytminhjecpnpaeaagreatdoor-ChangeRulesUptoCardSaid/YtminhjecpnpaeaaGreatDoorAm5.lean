/- Frames, single operations, hidden blocks. Conditions: none. -/
import Derived.Test.YtminhjecpnpaeaaGreatDoorAm4
set_option linter.unusedVariables false
set_option linter.unusedSimpArgs false
namespace Go.Am
open Go
def Fm(b:Frame)(tmps:Array Value)(ds:List Deferred)(todo:List Item):Frame:={b with tmps:=tmps,defers:=ds,todo:=todo,mode:=.run}
def gZ(tmps:Array Value)(h:Option Tmp)(v:Value):Array Value:=match h with
 |some d=>tmps.setIfInBounds d v
 |none=>tmps
theorem qBA(b:Frame)(tmps:Array Value)(ds:List Deferred)(h:List Item)(x:Operand):(Fm b tmps ds h).eval x=Act.eval ⟨tmps,[]⟩ x:=by cases x<;>rfl
theorem qIb(b:Frame)(tmps:Array Value)(ds:List Deferred)(h:List Item):(Fm b tmps ds h).eval=Act.eval ⟨tmps,[]⟩:=funext (qBA b tmps ds h)
section moves
variable{P:Program}{b:Frame}{tmps:Array Value}{ds:List Deferred}{k:List Item}{cs:List Frame}{w:World}{ops:Array Oper}
theorem qKB:step P (lone (Fm b tmps ds (.code .skip::k)) cs w)=.next (lone (Fm b tmps ds k) cs w):=
 step_lone_go (by simp[stepG,stepG.exec,Fm])
theorem qHo{l:Nat}:step P (lone (Fm b tmps ds (.code (.label l)::k)) cs w)=.next (lone (Fm b tmps ds k) cs w):=
 step_lone_go (by simp[stepG,stepG.exec,Fm])
theorem qCQ{id:Nat}:step P (lone (Fm b tmps ds (.inBlock id::k)) cs w)=.next (lone (Fm b tmps ds k) cs w):=
 step_lone_go (by simp[stepG,stepG.exec,Fm])
theorem qCP{c:Code}:step P (lone (Fm b tmps ds (.inScope c::k)) cs w)=.next (lone (Fm b tmps ds k) cs w):=
 step_lone_go (by simp[stepG,stepG.exec,Fm])
theorem qAo{x y:Code}:step P (lone (Fm b tmps ds (.code (.seq x y)::k)) cs w)=.next (lone (Fm b tmps ds (.code x::.code y::k)) cs w):=
 step_lone_go (by simp[stepG,stepG.exec,Fm])
theorem qBt{c:Operand}{x y:Code}{t:Bool}(h:Act.eval ⟨tmps,[]⟩ c=.bool t):
  step P (lone (Fm b tmps ds (.code (.cond c x y)::k)) cs w)=.next (lone (Fm b tmps ds (.code (if t then x else y)::k)) cs w):=
 step_lone_go (by
  have:=qBA b tmps ds (.code (.cond c x y)::k) c
  rw[h]at this
  simp only[Fm]at this
  simp[stepG,stepG.exec,Fm,this])
theorem eC{id:Nat}{c:Code}:step P (lone (Fm b tmps ds (.code (.block id c)::k)) cs w)=.next (lone (Fm b tmps ds (.code c::.inBlock id::k)) cs w):=
 step_lone_go (by simp[stepG,stepG.exec,Fm])
theorem qHn{c:Code}:step P (lone (Fm b tmps ds (.code (.scope c)::k)) cs w)=.next (lone (Fm b tmps ds (.code c::.inScope c::k)) cs w):=
 step_lone_go (by simp[stepG,stepG.exec,Fm])
theorem qRn{c:Code}:step P (lone (Fm b tmps ds (.code (.loop c)::k)) cs w)=.next (lone (Fm b tmps ds (.code c::.inLoop c::k)) cs w):=
 step_lone_go (by simp[stepG,stepG.exec,Fm])
theorem qEt{c:Code}:step P (lone (Fm b tmps ds (.inLoop c::k)) cs w)=.next (lone (Fm b tmps ds (.code c::.inLoop c::k)) cs w):=
 step_lone_go (by simp[stepG,stepG.exec,Fm])
theorem qKC{id:Nat}{k':List Item}(h:exitTo id k=some k'):step P (lone (Fm b tmps ds (.code (.exit id)::k)) cs w)=.next (lone (Fm b tmps ds k') cs w):=
 step_lone_go (by simp[stepG,stepG.exec,Fm,h])
theorem qEs{id:Nat}:step P (lone (Fm b tmps ds (.code (.region id ops false)::k)) cs w)=.next (lone (Fm b tmps ds (.inRegion ops (List.range ops.size)::k)) cs w):=
 step_lone_go (by simp[stepG,stepG.exec,Fm])
theorem qCM{id:Nat}:step P (lone (Fm b tmps ds (.code (.region id ops true)::k)) cs w) =
  .next (lone (Fm b tmps ds (.inRegion ops (Region.schedule (P.follows .mixedOrders) ops (w.tape w.drawn (.order b.fn id)))::k)) cs {w with drawn:=w.drawn+1}):=
 step_lone_go (by simp[stepG,stepG.exec,Fm,choose,Sem.run,Question.forced,Question.cut])
theorem lV:step P (lone (Fm b tmps ds (.inRegion ops []::k)) cs w)=.next (lone (Fm b tmps ds k) cs w):=
 step_lone_go (by simp[stepG,stepG.exec,Fm])
theorem gT{i:Nat}{rest:List Nat}{o:Oper}(h:ops[i]? = some o)(v:Value):(Fm b tmps ds (.inRegion ops (i::rest)::k)).finish v=Fm b (gZ tmps o.dst v) ds (.inRegion ops rest::k):=by cases hd:o.dst<;>simp[Frame.finish,Fm,gZ,h,hd]
theorem qCN{i:Nat}{rest:List Nat}{o:Oper}(x:ops[i]? = some o)(h:Region.wanted o (yielded ops tmps)=false):step P (lone (Fm b tmps ds (.inRegion ops (i::rest)::k)) cs w)=.next (lone (Fm b (gZ tmps o.dst undef) ds (.inRegion ops rest::k)) cs w):=by rw[←gT x];exact step_lone_go (by simp only[Fm];simp[stepG,stepG.exec,x,h])
theorem qOF{i:Nat}{rest:List Nat}{o:Oper}(g:ops[i]? = some o)(h:Region.wanted o (yielded ops tmps)=true)(hd:∀c,o.op≠.defer c):
  stepG P true {frame:=Fm b tmps ds (.inRegion ops (i::rest)::k),callers:=cs,status:=.running,dying:=none} w =
   stepG.apply P true (Fm b tmps ds (.inRegion ops (i::rest)::k)) cs none (execOp (Act.eval ⟨tmps,[]⟩) o) w:=by
 have he:=qIb b tmps ds (.inRegion ops (i::rest)::k)
 simp only[Fm]at he
 simp only[Fm]
 have:∀(r:Option Nat) (x y:GStep) (f:Nat->Call->GStep),(match r,o.op with|some l,.defer c=>f l c|_,_=>x)=x:=by
  grind
 cases hr:b.roundOf with
 |none=>
  simp only[hr]at he
  simp[stepG,stepG.exec,stepG.oper,Frame.oper?,g,h,he,hr]
 |some l=>
  simp only[stepG,stepG.exec,stepG.oper,Frame.oper?,g,h,hr]
  simp[g,h,hr,he]
  cases e:o.op<;>first|rfl|exact absurd e (hd _)
end moves
section
variable{E:Env}{σ:zU}{H:AH}{w:World}
def vU(E:Env)(f:FuncId)(x:List Value)(H:AH)(v:Value)(H':AH):Prop:=
 ∀(σ:zU) (w:World) (h:List Value),HR E σ H w->VRs σ x h->yD σ H.next H'.next->Calls E.prog f ⟨h⟩ w λe w'=>∃σ' v',e=.returned v'/\VR σ' v v'/\Step E σ H w σ' H' w'
def wO(E:Env)(l:Nat)(x:List Value)(H:AH)(v:Value)(H':AH):Prop:=
 ∀(σ:zU) (w:World) (h:List Value) (L:Loc) (lo:Loop),HR E σ H w->VRs σ x h->yD σ H.next H'.next->σ l=some L->w.heap[L.blk]? = some (.loop lo)->h.length=lo.params.size->∀(c:Frame) (cs:List Frame),∃σ' w' v',VR σ' v v'/\Step E σ H w σ' H' w'/\Steps E.prog (lone (Frame.round L.blk lo.fn ((lo.params.zip ⟨h⟩).foldl (λtmps (t,a)=>tmps.setIfInBounds t a) lo.tmps) lo.assign lo.body .normal) (c::cs) w) (lone (c.finish v') cs w')
theorem qCU(he:EOk E){ih:Cmd->AH->j9}(hc:∀f y H v H',ih (.call f y) H=some (.val v,H')->vU E f y H v H')(R:∀l y H v H',ih (.round l y) H=some (.val v,H')->wO E l y H v H')(hn:∀f y H v H',ih (.call f y) H=some (.val v,H')->H.next<=H'.next)(S:∀f y H v H',ih (.round f y) H=some (.val v,H')->H.next<=H'.next){fr:Fr}{o:Oper}{v:Value}{H':AH}{ops:Array Oper}{i:Nat}{tmps:Array Value}(h:vL E ih fr o H=some (v,H'))(hr:HR E σ H w)(F:yD σ H.next H'.next)(V:∀x∈o.op.operands.toList,∀v,ev E fr x=some v->VR σ v (Act.eval ⟨tmps,[]⟩ x))(G:ops[i]? = some o)(hw:Region.wanted o (yielded ops tmps)=true)(b:Frame)(ds:List Deferred)(rest:List Nat)(k:List Item)(cs:List Frame):∃σ' w' v',VR σ' v v'/\Step E σ H w σ' H' w'/\Steps E.prog (lone (Fm b tmps ds (.inRegion ops (i::rest)::k)) cs w) (lone (Fm b (gZ tmps o.dst v') ds (.inRegion ops rest::k)) cs w'):=by
 have hd:∀c,o.op≠.defer c:=by intro c e;simp[vL,vT,e]at h
 have I:=qOF (P:=E.prog) (b:=b) (tmps:=tmps) (ds:=ds) (k:=k) (cs:=cs) (w:=w) (rest:=rest) G hw hd;have p:=qLe (a:=⟨tmps,[]⟩) he hr o V;unfold vL at h;split at h
 ·cases h
 ·rename_i W H1 r;cases h;obtain⟨σ',w',nx,A,q,t⟩:=p _ _ r F;cases nx<;>simp only[qMK]at t;rename_i v';refine⟨σ',w',v',t,q,.one (step_lone_go ?_)⟩;rw[I,←gT G];simp[stepG.apply,A]
 ·rename_i H1 r;cases h;obtain⟨σ',w',nx,A,q,t⟩:=p _ _ r F;cases nx<;>simp only[qMK]at t;refine⟨σ',w',undef,.tuple .nil,q,.one (step_lone_go ?_)⟩;rw[I,←gT G];simp[stepG.apply,A]
 ·cases h
 ·rename_i f y H1 r;split at h;case h_2=>cases h
  rename_i W H2 C;cases h;have U:=hn _ _ _ _ _ C;have g:yD σ H.next H1.next:=λb r C=>F b r (by omega);obtain⟨z,K,nx,A,q,t⟩:=p _ _ r g;cases nx<;>simp only[qMK]at t;rename_i f' j;obtain⟨rfl,r4,fn,hfn⟩:=t;have B:=hc _ _ _ _ _ C z K j.toList q.hr r4 (F.split q.ext q.next) (Fm b tmps ds (.inRegion ops (i::rest)::k)::cs);obtain⟨e,J,fr2,⟨u,v',rfl,O,N⟩,M,_,q4⟩:=B;refine⟨u,J,v',O,q.trans N,.head (step_lone_go ?_) (M.trans (.one ?_))⟩
  ·rw[I];simp[stepG.apply,A,Fm]
  rw[←gT G];exact step_leave_returned q4
 rename_i l y H1 r;split at h;case h_2=>cases h
 rename_i W H2 C;cases h;have U:=S _ _ _ _ _ C;have g:yD σ H.next H1.next:=λb r C=>F b r (by omega);obtain⟨z,K,nx,A,q,t⟩:=p _ _ r g;simp only[qMK]at t;obtain⟨L,lo,j,s1,s2,Z,X,rfl⟩:=t;obtain⟨u,J,v',O,N,M⟩:=R _ _ _ _ _ C z K j L lo q.hr Z (F.split q.ext q.next) s1 s2 X (Fm b tmps ds (.inRegion ops (i::rest)::k)) cs;refine⟨u,J,v',O,q.trans N,.head (step_lone_go ?_) (by rw[←gT G];exact M)⟩;rw[I];simp[stepG.apply,A,Fm]
def qA9(b:Frame)(cs:List Frame):Prop:=b.kind=.normal∨(b.kind=.deferred/\∃c r,cs=c::r/\c.mode=.returning)
theorem qLO{b fr:Frame}{cs:List Frame}(h:qA9 b cs)(x:fr.kind=b.kind):tryRecover fr cs=none:=by
 rcases h with h|⟨h,c,r,rfl,hm⟩
 ·unfold tryRecover;rw[x,h]
 unfold tryRecover;rw[x,h];simp only[hm]
theorem qMg(he:EOk E){ih:Cmd->AH->j9}(N:∀f y H v H',ih (.call f y) H=some (.val v,H')->vU E f y H v H')(r:∀l y H v H',ih (.round l y) H=some (.val v,H')->wO E l y H v H')(K:∀f y H v H',ih (.call f y) H=some (.val v,H')->H.next<=H'.next)(z:∀f y H v H',ih (.round f y) H=some (.val v,H')->H.next<=H'.next){fr:Fr}{o:Oper}{v:Value}{H':AH}{ops:Array Oper}{i:Nat}{tmps:Array Value}(h:wW E ih fr o H=some (v,H'))(B:HR E σ H w)(C:yD σ H.next H'.next)(q:∀x∈o.op.operands.toList,∀v,ev E fr x=some v->VR σ v (Act.eval ⟨tmps,[]⟩ x))(u:ops[i]? = some o)(A:Region.wanted o (yielded ops tmps)=true)(b:Frame)(ds:List Deferred)(rest:List Nat)(k:List Item)(cs:List Frame)(L:qA9 b cs)(t:fr.rd=false->b.roundOf=none):∃σ' w' v',VR σ' v v'/\Step E σ H w σ' H' w'/\Steps E.prog (lone (Fm b tmps ds (.inRegion ops (i::rest)::k)) cs w) (lone (Fm b (gZ tmps o.dst v') ds (.inRegion ops rest::k)) cs w'):=by
 unfold wW at h;split at h
 ·rename_i H1 F;cases g:fr.rd with
  |true=>rw[g]at h;cases h
  |false=>
   rw[g]at h;cases h;have hd:∀c,o.op≠.defer c:=by intro c e;simp[vT,e]at F
   have M:=qOF (P:=E.prog) (b:=b) (tmps:=tmps) (ds:=ds) (k:=k) (cs:=cs) (w:=w) (rest:=rest) u A hd;obtain⟨σ',w',nx,J,I,G⟩:=qLe (a:=⟨tmps,[]⟩) he B o q _ _ F C;cases nx<;>simp only[qMK]at G;have j:=qLO (fr:=Fm b tmps ds (.inRegion ops (i::rest)::k)) L rfl;have p:(Fm b tmps ds (.inRegion ops (i::rest)::k)).roundOf=none:=t g;refine⟨σ',w',.nilIface,.leaf rfl,I,.one (step_lone_go ?_)⟩;rw[M,←gT u];simp[stepG.apply,J,p,j]
 exact qCU he N r K z h B C q u A b ds rest k cs
end
end Go.Am
namespace Go.Am
open Go
theorem yO:∀(W:List Nat) (t:T ABlk) (b:Nat),(lK t W).get b=if b∈W then none else t.get b
 | [],t,b=>by simp[lK]
 |c::W,t,b=>by rw[lK,yO W,T.get_put];grind
theorem xZ(h:T ABlk):∀(W:List Nat) (t:T ABlk) (b:Nat),(yI t h W).get b=if b∈W then h.get b else t.get b
 | [],t,b=>by simp[yI]
 |c::W,t,b=>by rw[yI,xZ h W,T.get_put];grind
section
variable{E:Env}{σ σ':zU}{H Q H':AH}{w w':World}
theorem HR.hide(hr:HR E σ H w)(W:List Nat):HR E σ (zR H W) w:=by
 have g:∀b k,(zR H W).blocks.get b=some k->H.blocks.get b=some k:=by
  intro b k h;rw[show(zR H W).blocks=lK H.blocks W from rfl,yO]at h;split at h
  ·cases h
  exact h
 exact⟨λb k L l=>hr.objs b k L (g b k l),λe c y x j i p o=>hr.sep e c y x j i (g _ _ p) (g _ _ o),hr.glob,λb k l=>hr.wf b k (g b k l)⟩
theorem HR.lt(x:HR E σ H w){b:Nat}{k:ABlk}{L:Loc}(y:H.blocks.get b=some k)(h:σ b=some L):L.blk<w.heap.size:=by obtain⟨c,e,_⟩:=x.objs b k L y h;grind
theorem Step.p1(h:HR E σ H w)(s:Step E σ H w σ' H' w')(c:H.next<=H'.low):∀B,B<w.heap.size->w'.heap[B]? = w.heap[B]? :=
 λB y=>s.frame B y λb k _ x _ _ e=>absurd (h.wf b k x) (by omega)
theorem Step.p2(c:HR E σ H w)(s:Step E σ H w σ' H' w')(i:H.next<=H'.low):∀b,b<H.next->H'.blocks.get b=H.blocks.get b:=by
 intro b e;cases h:H.blocks.get b with
 |some k=>exact s.keep b k h (by have:=c.wf b k h;omega)
 |none=>
  cases g:H'.blocks.get b with
  |none=>rfl
  |some k=>obtain⟨x,y,_⟩:=s.old b k g e;rw[h]at y;cases y
theorem Step.p2low(c:HR E σ H w)(s:Step E σ H w σ' H' w'):∀b,b<H.next->b<H'.low->H'.blocks.get b=H.blocks.get b:=by
 intro b e i;cases h:H.blocks.get b with
 |some k=>exact s.keep b k h (by have:=c.wf b k h;omega)
 |none=>
  cases g:H'.blocks.get b with
  |none=>rfl
  |some k=>obtain⟨x,y,_⟩:=s.old b k g e;rw[h]at y;cases y
theorem Step.p3(i:HR E σ H w)(s:Step E σ H w σ' H' w')(o:H.next<=H'.low):∀b k L,H.next<=b->H'.blocks.get b=some k->σ' b=some L->w.heap.size<=L.blk:=by
 intro b k L j c g;obtain⟨p,l⟩:=s.born b k c j;rcases s.origin b k L c l g with h|⟨y,x,e,g1,_,_,_,g5⟩
 ·exact h
 have:=i.wf y x g1;omega
theorem Step.restore{W:List Nat}(hr:HR E σ H w)(U:yD σ H.next Q.next)(s:Step E σ (zR H W) w σ' Q w')(S:H.next<=Q.low):Step E σ H w σ' (jK H Q W) w':=by
 have A:=hr.hide W;have C:(zR H W).next<=Q.low:=S;have p1:=s.p1 A C;have p2:=s.p2 A C;have p3:=s.p3 A C;have R:∀b,(jK H Q W).blocks.get b=if b∈W then H.blocks.get b else Q.blocks.get b:=λb=>xZ _ _ _ _;have i:∀b,b<H.next->(jK H Q W).blocks.get b=H.blocks.get b:=by
  intro b e;rw[R];split
  ·rfl
  ·rename_i V;rw[p2 b e];show(lK H.blocks W).get b=_;rw[yO,if_neg V]
 have y:∀b k,H.next<=b->(jK H Q W).blocks.get b=some k->Q.blocks.get b=some k:=by
  intro b k e K;rw[R]at K;split at K
  ·have:=(hr.wf b k K).2;omega
  ·exact K
 have p:∀b,b<H.next->σ' b=σ b:=λb e=>s.ext b (.inl e);have N:zU.le σ σ':=s.le U
 refine { hr:=?_,next:=s.next,ext:=s.ext,size:=s.size,low:=Nat.min_le_left _ _,tape:=s.tape,os:=s.os,output:=s.output,frame:=λB X _=>p1 B X,
          origin:=?_,old:=?_,keep:=?_,born:=?_}
 ·refine {objs:=?_,sep:=?_,glob:=s.hr.glob,wf:=?_}
  ·intro b k L e F;by_cases h:b<H.next
   ·rw[i b h]at e;rw[p b h]at F;obtain⟨o,G,z⟩:=hr.objs b k L e F;exact⟨o,by rw[p1 _ (hr.lt e F)];exact G,z.mono N⟩
   ·exact s.hr.objs b k L (y b k (by omega) e) F
  ·intro c x l j u t G z M r q I;by_cases J:c<H.next
   ·rw[i c J]at G;rw[p c J]at r;by_cases g2:x<H.next
    ·rw[i x g2]at z;rw[p x g2]at q;exact hr.sep c x l j u t G z M r q I
    ·have:=p3 x j t (Nat.le_of_not_lt g2) (y x j (by omega) z) q;have:=hr.lt G r;omega
   ·have O:=y c l (by omega) G;by_cases g2:x<H.next
    ·rw[i x g2]at z;rw[p x g2]at q;have:=p3 c l u (Nat.le_of_not_lt J) O r;have:=hr.lt z q;omega
    ·exact s.hr.sep c x l j u t O (y x j (by omega) z) M r q I
  ·intro b k e;by_cases h:b<H.next
   ·rw[i b h]at e;have:=hr.wf b k e;exact⟨this.1,Nat.lt_of_lt_of_le this.2 s.next⟩
   ·exact s.hr.wf b k (y b k (by omega) e)
 ·intro b k L e M F;by_cases h:b<H.next
  ·grind
  ·exact .inl (p3 b k L (Nat.le_of_not_lt h) (y b k (by omega) e) F)
 ·grind
 ·intro b k e _;rw[i b (hr.wf b k e).2];exact e
 ·intro b k e h;obtain⟨J,g2⟩:=s.born b k (y b k h e) h;exact⟨J.imp id λg=>lT (Nat.min_le_right _ _) g,g2⟩
theorem cG{fr x:Fr}{tmps:Array Value}{dst:Option Tmp}{v v':Value}(y:aW σ fr tmps)(h:wR fr dst v=some x)(hv:VR σ v v'):aW σ x (gZ tmps dst v'):=by
 unfold wR at h;cases dst with
 |none=>cases h;exact y
 | some d=>
  simp only[vQ]at h;split at h;case isFalse=>cases h
  rename_i g;cases h;refine⟨by simp[gZ,y.1],λt u hu=>?_⟩;have c:=y.1;simp only[T.get_put]at hu;simp only[gZ];by_cases e:t=d
  ·subst e;rw[if_pos rfl]at hu;cases hu;have:(tmps.setIfInBounds t v').getD t undef=v':=by simp[Array.getD,show t<tmps.size by omega]
   rw[this];exact hv
  rw[if_neg e]at hu;have:(tmps.setIfInBounds d v').getD t undef=tmps.getD t undef:=by have e':¬d=t:=λh=>e h.symm;simp_all
  rw[this];exact y.2 t u hu
theorem VR.bool_iff{v v':Value}(h:VR σ v v')(b:Bool):v'=.bool b->v=.bool b:=by intro e;subst e;cases h;rfl
theorem qAH{ops:Array Oper}{fr:Fr}{tmps:Array Value}{j:Nat}{r:Option Bool}(h:dH ops fr j=some r)(B:∀d,((ops[j]?).bind (·.dst))=some d->∀v,fr.t.get d=some v->VR σ v (tmps.getD d undef)):yielded ops tmps j=r:=by
 unfold dH at h;split at h
 ·rename_i d op ty pos F C t;have g:ops[j]? = some {dst:=some d,op:=op,type:=ty,pos:=pos,after:=F,guard:=C}:=by simpa using t
  have x:=B d (by simp[g]);have A:yielded ops tmps j=match tmps[d]? with|some (.bool b)=>some b|_=>none:=by simp[yielded,g];rfl
  have z:tmps.getD d undef=(tmps[d]?).getD undef:=by simp
  rw[z]at x;rw[A];split at h
  ·rename_i b hv;cases h;have l:=(x _ hv).bool_inv;cases o:tmps[d]? with
   |none=>rw[o]at l;simp[undef]at l
   |some u=>rw[o]at l;simp at l;subst l;rfl
  ·rename_i v p hv;cases h;have i:=x v hv;cases o:tmps[d]? with
   |none=>rfl
   |some u=>rw[o]at i;cases u<;>first|rfl|(have:=i.bool_iff _ rfl;subst this;exact(p _ rfl).elim)
  cases h
 rename_i t;cases h;cases g:ops[j]? with
 |none=>simp[yielded,g]
 |some c=>
  have q:ops.toList[j]? = some c:=by simpa using g
  cases y:c.dst with
  |none=>simp[yielded,g,y]
  |some d=>exact absurd q (by intro e;exact t d c.op c.type c.pos c.after c.guard (by rw[e,←y]))
theorem nO{ops:Array Oper}{fr:Fr}{tmps:Array Value}{o:Oper}{b:Bool}(h:vH ops fr o=some b)(e:∀j want,o.guard=some (j,want)->∀d,((ops[j]?).bind (·.dst))=some d->∀v,fr.t.get d=some v->VR σ v (tmps.getD d undef)):Region.wanted o (yielded ops tmps)=b:=by
 unfold vH at h;unfold Region.wanted;split at h
 ·rename_i x;simp only[x];cases h;rfl
 rename_i j want x;simp only[x];split at h
 ·rename_i c y;cases h;rw[qAH y (e j want x)];rfl
 ·rename_i y;cases h;rw[qAH y (e j want x)];rfl
 cases h
end
end Go.Am
namespace Go.Am
open Go
inductive Anc (ops:List Oper):Nat->Nat->Prop
 |edge {p i:Nat} {o:Oper} (h:ops[i]? = some o) (hp:p∈dS o):Anc ops p i
 |trans {a p i:Nat} {o:Oper} (h:ops[i]? = some o) (hp:p∈dS o) (ha:Anc ops a p):Anc ops a i
theorem qGW(acc:List Nat)(j:Nat):∀(x:List Nat) (m:Nat),(qAd acc x m).testBit j=true->m.testBit j=true∨∃p∈x,j=p∨(acc.getD p 0).testBit j=true
 | [],m,h=>.inl h
 | p::x,m,h=>by
  simp only[qAd]at h;rcases qGW acc j x _ h with h|⟨q,c,h⟩
  ·have y:Nat.lor m (Nat.lor (Nat.shiftLeft 1 p) (acc.getD p 0))=m|||(1 <<< p|||acc.getD p 0):=rfl;rw[y,Nat.testBit_or,Nat.testBit_or,Bool.or_eq_true,Bool.or_eq_true]at h;rcases h with h|h|h
   ·exact .inl h
   ·refine .inr ⟨p,by simp,.inl ?_⟩;rw[Nat.one_shiftLeft,Nat.testBit_two_pow]at h;exact(yB h).symm
   grind
  grind
theorem iA(all:List Oper):∀(y:List Oper) (acc:List Nat),(∀i,i<acc.length->∀j,(acc.getD i 0).testBit j=true->Anc all j i)->all.drop acc.length=y->
  ∀i j,((bH acc y).getD i 0).testBit j=true->Anc all j i
 | [],acc,h,_,i,j,x=>by
  simp only[bH]at x
  grind
 | o::y,acc,h,hd,i,j,x=>by
  simp only[bH]at x
  have q:all[acc.length]? = some o:=by
   have:=congrArg (·[0]?) hd
   simpa using this
  refine iA all y _ ?_ ?_ i j x
  ·intro i t j x
   simp only[List.length_append,List.length_cons,List.length_nil]at t
   by_cases r:i<acc.length
   ·grind
   have g:i=acc.length:=by omega
   subst g
   have e:(acc++[qAd acc (dS o) 0]).getD acc.length 0=qAd acc (dS o) 0:=by simp
   rw[e]at x
   rcases qGW acc j _ _ x with z|⟨p,l,rfl|u⟩
   ·simp at z
   ·exact .edge q l
   by_cases c:p<acc.length
   ·exact .trans q l (h p c j u)
   grind
  have:=congrArg (List.drop 1) hd
  rw[List.drop_drop]at this
  simpa using this
theorem qDo{ops:List Oper}{i j:Nat}(h:pS (kI ops) j i=true):Anc ops j i:=
 iA ops ops [] (by simp) (by simp) i j h
theorem l8{ops:List Oper}{i j:Nat}(h:rG (kI ops) j i=true):(j<i->Anc ops j i)/\(¬j<i->Anc ops i j):=by
 unfold rG at h;cases x:Nat.blt j i with
 |true=>rw[x,cond_true]at h;have:j<i:=o9 x;exact⟨λ_=>qDo h,λc=>absurd this c⟩
 |false=>
  rw[x,cond_false]at h;have:¬j<i:=λy=>by have:Nat.blt j i=true:=bL y;rw[this]at x;cases x
  exact⟨λc=>absurd c this,λ_=>qDo h⟩
theorem qHv{ops:List Oper}{i:Nat}(h:yT ops i=true):xF ops i=false:=by unfold yT at h;grind
theorem qHu{ops:List Oper}{i:Nat}(h:yT ops i=true){j:Nat}(y:j<ops.length)(x:j≠i)(c:xF ops j=false):rG (kI ops) j i=true:=by
 unfold yT at h;simp only[aE,List.all_eq_true,List.mem_range,Bool.or_eq_true]at h;rcases h.2 j y with(h|h)|h
 ·simp_all
 all_goals grind
theorem sX{ts:List (Nat×Nat)}{i:Nat}:∀{n lo:Nat},cF ts i n lo=true->∀b,lo<=b->b<lo+n->(i,b)∈ts
 |0,lo,_,b,y,x=>by omega
 |n+1,lo,h,b,y,x=>by
  unfold cF at h;rw[aE]at h;by_cases e:b=lo
  ·simp_all
  exact sX h.2 b (by omega) (by omega)
theorem qFK{all:List Oper}{ts:List (Nat×Nat)}{i n lo:Nat}(h:yY all ts i n lo=true):yT all i=true∨(xF all i=false/\∀b,lo<=b->b<n->(i,b)∈ts):=by
 unfold yY at h;rw[Bool.or_eq_true,aE,Bool.not_eq_true']at h;rcases h with h|⟨y,x⟩
 ·exact .inl h
 refine .inr ⟨y,λb c e=>sX x b c ?_⟩;show b<lo+(n-lo);omega
theorem qJd{all:List Oper}{ts:List (Nat×Nat)}{i n lo:Nat}(h:yT all i=true):yY all ts i n lo=true:=by unfold yY;rw[h,Bool.true_or]
theorem sY{ts:List (Nat×Nat)}{p:Nat×Nat}{i:Nat}:∀{n lo:Nat},cF ts i n lo=true->cF (p::ts) i n lo=true
 |0,_,_=>rfl
 |n+1,lo,h=>by unfold cF at h ⊢;rw[aE]at h ⊢;refine⟨?_,sY h.2⟩;grind
theorem qFL{all:List Oper}{ts:List (Nat×Nat)}{p:Nat×Nat}{i n lo:Nat}(h:yY all ts i n lo=true):yY all (p::ts) i n lo=true:=by unfold yY at h ⊢;rw[Bool.or_eq_true,aE]at h ⊢;exact h.imp id λh=>⟨h.1,sY h.2⟩
theorem qIw{ops:List Oper}(h:bD ops=true){i p:Nat}{o:Oper}(c:ops[i]? = some o)(x:p∈dS o):p<i:=by
 unfold bD at h;simp only[List.all_eq_true,aE]at h;have y:(o,i)∈ops.zipIdx:=by grind
 have:=(h (o,i) y).1 p x;exact o9 this
theorem qAO{ops:List Oper}(h:bD ops=true){i k:Nat}{o q:Oper}(e:ops[i]? = some o)(c:ops[k]? = some q)(x:k≠i){d:Tmp}(hd:q.dst=some d)(g:d∈lH ops o):rG (kI ops) k i=true:=by
 unfold bD at h;simp only[List.all_eq_true,aE,Bool.or_eq_true]at h;have j:(o,i)∈ops.zipIdx:=by rw[List.mem_zipIdx_iff_getElem?];exact e
 have y:(q,k)∈ops.zipIdx:=by rw[List.mem_zipIdx_iff_getElem?];exact c
 rcases(h (o,i) j).2 (q,k) y with h|h
 ·exact absurd (vE h) x
 simp only[hd,Bool.or_eq_true,Bool.not_eq_true',List.contains_eq_mem,decide_eq_false_iff_not]at h;rcases h with h|h
 ·exact absurd g h
 exact h
theorem qCy{all:List Oper}{i:Nat}:∀{ts:List (Nat×Nat)} {j b:Nat},(j,b)∈ts->j≠i->rG (kI all) j i=false->b∈qJ all i ts
 | [],j,b,h,_,_=>by simp at h
 | (g,l)::ts,j,b,h,x,y=>by
  simp only[qJ];simp only[List.mem_cons,Prod.mk.injEq]at h;rcases h with⟨rfl,rfl⟩|h
  ·have e:Nat.beq j i=false:=by
    cases c:Nat.beq j i with
    |false=>rfl
    |true=>exact absurd (vE c) x
   simp[e,y]
  have:=qCy h x y;grind
end Go.Am
namespace Go.Am
open Go
def Up(H:AH)(r:gC):Prop:=∀h H',r=some (h,H')->H.next<=H'.next
theorem Up.none{H:AH}:Up H none:=λ_ _ h=>by cases h
theorem Up.one{H:AH}{v:Option Value}:Up H (one H v):=by intro x H' h;simp only[Go.Am.one,Option.map_eq_some_iff]at h;grind
theorem Up.same{H:AH}{x:AR}:Up H (some (x,H)):=λ_ _ h=>by cases h;exact lR _
theorem Up.new{H:AH}{y:AR}{x:AObj}:Up H (some (y,H.new x)):=λ_ _ h=>by cases h;exact Nat.le_succ _
theorem Up.write{H:AH}{y:AR}{x:AObj}{b:Nat}{k:ABlk}:Up H (some (y,H.write b k x)):=λ_ _ h=>by cases h;exact lR _
theorem Up.move{H:AH}{y:AR}{x:AObj}{b:Nat}{k:ABlk}:Up H (some (y,H.move b k x)):=λ_ _ h=>by cases h;exact Nat.le_succ _
theorem mZ{H H':AH}{b i:Nat}{vs:List Value}(h:H.stores b i vs=some H'):H'.next=H.next:=by
 unfold AH.stores at h;split at h
 ·simp only[Option.map_eq_some_iff]at h;obtain⟨_,_,rfl⟩:=h;rfl
 cases h
theorem Up.mapEq{H:AH}{r:Option AH}{x:AR}(h:∀H',r=some H'->H'.next=H.next):Up H (r.map λH'=>(x,H')):=by intro a H' e;simp_all
theorem qGp{E:Env}{H H':AH}{t:TypeId}{a v:Value}(h:kD E H t a v=some H'):H'.next=H.next:=by
 unfold kD at h;split at h
 ·simp only[qY]at h;split at h
  ·exact mZ h
  cases h
 cases h
theorem sH{E:Env}{H H':AH}{t:TypeId}{m k v:Value}(h:pW E H t m k v=some H'):H'.next=H.next:=by
 unfold pW at h;split at h;case h_2=>cases h
 split at h;case h_2=>cases h
 cases x:zF k with
 |false=>rw[x]at h;simp at h
 | true=>
  rw[x,cond_true]at h;split at h
  ·split at h;case h_2=>cases h
   rename_i e _;cases y:Instr.sameBits 10000 e.key k with
   |false=>rw[y]at h;simp at h
   |true=>rw[y,cond_true]at h;cases h;rfl
  ·cases h;rfl
  cases h
theorem qFX{E:Env}{H H':AH}{t:TypeId}{m k:Value}(h:uF E H t m k=some H'):H'.next=H.next:=by unfold uF at h;cases h
theorem Up.bif{H:AH}{c:Bool}{x y:gC}(e:Up H x)(h:Up H y):Up H (bif c then x else y):=by cases c<;>assumption
theorem qJA(E:Env)(H:AH)(ats:List TypeId)(s x:Value):Up H (jV E H ats s x):=by
 unfold jV;split;case h_2=>exact Up.none
 split;case h_2=>exact Up.none
 split;case h_2=>exact Up.none
 split;case h_2=>exact Up.none
 refine Up.bif (Up.bif Up.same ?_) Up.none;split
 ·exact Up.new
 ·refine Up.bif ?_ (Up.bif (Up.mapEq λH' h=>mZ h) ?_)
  ·split
   ·exact Up.bif Up.move Up.none
   exact Up.none
  split
  ·exact Up.new
  exact Up.none
 exact Up.none
theorem qBa(E:Env)(H:AH)(ats:List TypeId)(p l:Value):Up H (wF E H ats p l):=by unfold wF;exact Up.none
theorem qJw(E:Env)(H:AH)(e:TypeId)(b:ByteArray):Up H (mK E H e b):=by
 unfold mK;split
 ·exact Up.bif Up.new Up.none
 exact Up.none
theorem qJx(E:Env)(H:AH)(b:Builtin)(ats:List TypeId)(x:List Value):Up H (xR E H b ats x):=by
 unfold xR;split
 ·split
  ·exact qJA _ _ _ _ _
  exact Up.none
 ·split<;>first|exact Up.one|exact Up.none
 ·split<;>first|exact Up.one|exact Up.none
 ·split
  ·exact Up.same
  ·exact Up.bif Up.same Up.none
  exact Up.none
 ·split
  ·exact qBa _ _ _ _ _
  exact Up.none
 ·split
  ·unfold qEH;split
   ·exact Up.none
   split
   ·exact Up.none
   split;case h_2=>exact Up.none
   split;case h_2=>exact Up.none
   split
   ·exact Up.none
   refine Up.bif Up.same ?_;split
   ·exact Up.mapEq λH' h=>mZ h
   exact Up.none
  exact Up.none
 ·split
  ·unfold qAz;split
   ·exact Up.none
   split
   ·exact Up.none
   split;case h_2=>exact Up.none
   split;case h_2=>exact Up.none
   refine Up.bif Up.same ?_;split
   ·exact Up.mapEq λH' h=>mZ h
   exact Up.none
  exact Up.none
 ·split
  ·exact Up.mapEq λH' h=>qFX h
  exact Up.none
 ·exact Up.bif Up.one Up.none
 ·exact Up.bif Up.one Up.none
 ·split
  ·exact Up.same
  exact Up.none
 exact Up.none
theorem qCZ(E:Env)(H:AH)(f:FuncId)(h:List Value):Up H (rY E H f h):=by
 unfold rY;split
 ·exact Up.same
 exact Up.none
theorem qMn(E:Env)(H:AH)(f:FuncId)(h:List Value):Up H (oU E H f h):=by
 unfold oU;split
 ·exact Up.same
 unfold qUi;split
 ·split
  ·refine Up.bif ?_ ?_
   ·unfold qBm;exact Up.none
   split
   ·exact Up.one
   exact Up.none
  exact Up.none
 ·split
  ·exact Up.bif Up.same Up.none
  exact Up.none
 refine Up.bif ?_ Up.none;split
 ·exact Up.one
 exact Up.none
theorem qR3(E:Env)(fr:Fr)(H:AH)(c:Call):Up H (yL E fr H c):=by
 unfold yL;split
 ·exact Up.none
 split
 ·exact qJx _ _ _ _ _
 ·split
  ·split
   ·exact qCZ _ _ _ _
   exact Up.none
  exact Up.none
 split
 ·exact qMn _ _ _ _
 ·split
  ·exact Up.bif Up.same Up.none
  exact Up.none
 ·split
  ·split
   ·exact qCZ _ _ _ _
   exact Up.none
  exact Up.none
 ·split
  ·simp only;split
   ·split
    ·exact qCZ _ _ _ _
    exact Up.none
   exact Up.none
  exact Up.none
 exact Up.none
theorem qDr(E:Env)(fr:Fr)(o:Oper)(H:AH):Up H (vT E fr o H):=by
 unfold vT;split;all_goals try(split<;>first|exact Up.one|exact Up.none|exact Up.same|exact Up.new|skip)
 all_goals try first|exact Up.one|exact Up.none|exact Up.new|exact qR3 _ _ _ _
 ·unfold wX;split
  ·split
   ·refine Up.bif ?_ Up.none;intro x H' h;simp only[Option.map_eq_some_iff]at h;obtain⟨_,_,h⟩:=h;cases h;exact Nat.le_succ _
   exact Up.none
  exact Up.none
 ·exact Up.mapEq λH' h=>qGp h
 ·exact Up.bif Up.one Up.none
 ·split
  ·exact qJw _ _ _ _
  exact Up.one
 ·exact Up.bif Up.one Up.none
 ·unfold gK;split
  ·split
   ·exact Up.bif Up.new Up.none
   exact Up.none
  exact Up.none
 ·split<;>first|exact Up.one|exact Up.none
 ·split<;>first|exact Up.one|exact Up.none
 ·split
  ·exact Up.bif Up.one Up.none
  exact Up.none
 ·exact Up.mapEq λH' h=>sH h
 ·exact Up.mapEq λH' h=>sH h
 ·split
  ·exact Up.new
  exact Up.none
 ·unfold qAU;split
  ·split
   ·exact Up.bif Up.write Up.same
   exact Up.none
  exact Up.none
 split
 ·exact Up.one
 ·exact Up.bif Up.one Up.none
 exact Up.none
def rS(ih:Cmd->AH->j9):Prop:=∀cmd H h H',ih cmd H=some (h,H')->H.next<=H'.next
theorem qCV{E:Env}{ih:Cmd->AH->j9}(hu:rS ih){fr:Fr}{o:Oper}{H H':AH}{v:Value}(h:vL E ih fr o H=some (v,H')):H.next<=H'.next:=by
 unfold vL at h;split at h
 ·cases h
 ·rename_i x;cases h;exact qDr _ _ _ _ _ _ x
 ·rename_i x;cases h;exact qDr _ _ _ _ _ _ x
 ·cases h
 ·rename_i x;split at h
  ·rename_i y;cases h;exact lT (qDr _ _ _ _ _ _ x) (hu _ _ _ _ y)
  cases h
 rename_i x;split at h
 ·rename_i y;cases h;exact lT (qDr _ _ _ _ _ _ x) (hu _ _ _ _ y)
 cases h
theorem qHB{E:Env}{ih:Cmd->AH->j9}(hu:rS ih){fr:Fr}{o:Oper}{H H':AH}{v:Value}(h:wW E ih fr o H=some (v,H')):H.next<=H'.next:=by
 unfold wW at h;split at h
 ·rename_i y;cases x:fr.rd with
  |true=>rw[x]at h;cases h
  |false=>rw[x]at h;cases h;exact qDr _ _ _ _ _ _ y
 exact qCV hu h
theorem qPg{E:Env}{ih:Cmd->AH->j9}(hu:rS ih){ts:List (Nat×Nat)}{all:List Oper}{i:Nat}{fr:Fr}{o:Oper}{H H':AH}{v:Value}(h:pE E ih ts all i fr o H=some (v,H')):H.next<=H'.next:=by
 unfold pE at h;simp only at h;split at h
 ·rename_i c Q y;have:=qCV hu y;cases x:((Nat.ble H.next Q.low||((qJ all i ts).isEmpty&&(ts.any (λt=>Nat.beq t.1 i&&xO fr o t.2)||yY all ts i H.next Q.low)))&&(qJ all i ts).all (λb=>Nat.blt b H.next||Nat.ble Q.next b))with
  |false=>rw[x]at h;simp at h
  |true=>rw[x,cond_true]at h;cases h;exact this
 cases h
theorem kL{E:Env}{ih:Cmd->AH->j9}(hu:rS ih){all:Array Oper}{draw:Bool}{ts:List (Nat×Nat)}:∀{os:List Oper} {i:Nat} {fr x:Fr} {H H':AH},
  zM E ih all draw ts os i fr H=some (x,H')->H.next<=H'.next
 | [],i,fr,x,H,H',h=>by simp[zM]at h;rw[h.2];exact lR _
 | o::os,i,fr,x,H,H',h=>by
  simp only[zM]at h
  split at h
  ·cases h
  ·split at h
   ·exact kL hu h
   cases h
  split at h
  ·cases h
  rename_i v H1 y
  split at h
  ·cases h
  refine lT ?_ (kL hu h)
  cases draw with
  |true=>exact qPg hu y
  |false=>exact qHB hu y
theorem qLB{E:Env}{ih:Cmd->AH->j9}(hu:rS ih){fr:Fr}{f:Operand}{params:List Tmp}{assign b:Code}{H H':AH}{out:Out}(h:dQ E ih fr f params assign b H=some (out,H')):H.next<=H'.next:=by
 unfold dQ at h;split at h
 ·split at h
  ·rename_i y;have x:H.next<=_:=lT (Nat.le_succ _) (hu _ _ _ _ y);split at h
   ·split at h
    ·cases h
    split at h
    ·cases h;exact x
    have c:=hu _ _ _ _ h;exact lT x c
   cases h
  cases h
 cases h
theorem qLy{E:Env}{ih:Cmd->AH->j9}(hu:rS ih){l:Nat}{args:List Value}{H H':AH}{out:Out}(h:gJ E ih l args H=some (out,H')):H.next<=H'.next:=by
 unfold gJ at h;split at h
 ·split at h
  ·split at h
   ·rename_i y;have e:=hu _ _ _ _ y;split at h
    ·split at h
     ·rename_i x;have c:=hu _ _ _ _ x;split at h
      ·cases h;exact lT e c
      cases h
     cases h
    cases h
   cases h
  cases h
 cases h
theorem sV{E:Env}{rs:List ResultVar}{fr:Fr}{H H':AH}{out:Out}(h:qDC E rs fr H=some (out,H')):H'=H:=by unfold qDC at h;grind
theorem qG7{E:Env}{ih:Cmd->AH->j9}(hu:rS ih){rs:List ResultVar}{g:FuncId}{xs:List Value}{fr:Fr}{H H':AH}{out:Out}(h:qEh E ih rs g xs fr H=some (out,H')):H.next<=H'.next:=by
 unfold qEh at h;split at h
 ·split at h
  ·split at h
   ·rename_i x;rw[sV h];exact hu _ _ _ _ x
   ·rename_i x;rw[sV h];exact hu _ _ _ _ x
   cases h
  cases h
 cases h
theorem eI{E:Env}{ih:Cmd->AH->j9}(hu:rS ih):∀{c:Code} {fr x:Fr} {H H':AH} {d:FuncId×List Value} {b:Code},gB E ih c fr H=some (d,x,H',b)->H.next<=H'.next:=by
 intro c;induction c with
 | seq a b _ y=>
  intro fr x H H' d g h;cases a with
  | region id ops draw=>
   simp only[gB]at h;split at h
   ·rename_i e;exact lT (kL hu e) (y h)
   cases draw with
   |true=>cases h
   | false=>
    simp only[cond_false]at h;split at h
    ·split at h
     ·rename_i e;split at h
      ·cases h;exact kL hu e
      cases h
     cases h
    cases h
  |_=>simp[gB]at h
 |_=>intro fr x H H' d g h;simp[gB]at h
theorem qMo{E:Env}{ih:Cmd->AH->j9}(hu:rS ih){rs:List ResultVar}{c:Code}{fr:Fr}{H H':AH}{out:Out}(h:qAx E ih rs c fr H=some (out,H')):H.next<=H'.next:=by
 unfold qAx at h;split at h
 ·rename_i e;have y:=eI hu e;split at h
  ·rename_i x;exact lT y (lT (hu _ _ _ _ x) (qG7 hu h))
  ·rename_i x;exact lT y (lT (hu _ _ _ _ x) (qG7 hu h))
  cases h
 cases h
theorem qLa{E:Env}{ih:Cmd->AH->j9}(hu:rS ih):rS (body E ih):=by
 intro cmd H e H' h;unfold body at h;split at h
 ·split at h
  ·cases h;exact lR _
  ·cases h;exact lR _
  ·cases h;exact lR _
  ·cases h;exact lR _
  ·split at h
   ·rename_i x;exact lT (hu _ _ _ _ x) (hu _ _ _ _ h)
   exact hu _ _ _ _ h
  ·split at h
   ·exact hu _ _ _ _ h
   ·exact hu _ _ _ _ h
   cases h
  ·split at h
   ·rename_i y g H1 x;cases c:Nat.beq y _ with
    |true=>rw[c,cond_true]at h;cases h;exact hu _ _ _ _ x
    |false=>rw[c,cond_false]at h;cases h;exact hu _ _ _ _ x
   exact hu _ _ _ _ h
  ·split at h
   ·rename_i x;exact lT (hu _ _ _ _ x) (hu _ _ _ _ h)
   exact hu _ _ _ _ h
  ·exact hu _ _ _ _ h
  ·split at h
   ·rename_i x;cases h;exact kL hu x
   rename_i draw _ _;cases draw with
   |false=>cases h
   | true=>
    simp only[cond_true]at h;split at h
    ·split at h
     ·rename_i x;cases h;exact kL hu x
     split at h
     ·rename_i x;cases h;exact kL hu x
     split at h
     ·rename_i x;cases h;exact kL hu x
     cases h
    cases h
  ·exact qLB hu h
  cases h
 ·
  -- a call
  split at h
  ·split at h
   ·split at h
    ·rename_i x;split at h
     ·cases h;exact hu _ _ _ _ x
     ·cases h;exact hu _ _ _ _ x
     cases h
    ·rename_i x;split at h
     ·cases h;exact hu _ _ _ _ x
     ·cases h;exact hu _ _ _ _ x
     cases h
    ·exact qMo hu h
    cases h
   cases h
  cases h
 exact qLy hu h
theorem qJ1(E:Env):∀n,rS (qQo E n)
 |0=>λ_ _ _ _ h=>by cases h
 |n+1=>qLa (qJ1 E n)
end Go.Am
namespace Go.Am
open Go
def qH8(ops:Array Oper)(fr:Fr)(H:AH)(h:Fr)(H':AH)(o:Oper):Prop:=
 vH ops fr o=some false/\wR fr o.dst (.tuple #[])=some h/\H'=H
def qH9(E:Env)(ih:Cmd->AH->j9)(W:List Nat)(ops:Array Oper)(fr:Fr)(H:AH)(h:Fr)(H':AH)(o:Oper)(v:Value)(Q:AH):Prop:=
 vH ops fr o=some true/\vL E ih fr o (zR H W)=some (v,Q)/\H'=jK H Q W/\wR fr o.dst v=some h
def Tg(ts:List (Nat×Nat))(fr:Fr)(o:Oper)(i b:Nat):Prop:=(i,b)∈ts/\xO fr o b=true
def qZj(ops:Array Oper)(ts:List (Nat×Nat))(i n lo:Nat):Prop:=yT ops.toList i=true∨(xF ops.toList i=false/\∀b,lo<=b->b<n->(i,b)∈ts)
def NF(ts:List (Nat×Nat))(Hs:Nat->AH)(i:Nat):Prop:=(∃h,(i,h)∈ts)/\∀b,b<(Hs i).next->(i,b)∉ts->(Hs (i+1)).blocks.get b=(Hs i).blocks.get b
def TS(ts:List (Nat×Nat))(ops:Array Oper)(frs:Nat->Fr)(i b:Nat):Prop:=∃o,ops[i]? = some o/\Tg ts (frs i) o i b
theorem qJB{fr:Fr}{c:Call}{b:Nat}(h:qEK fr c=some b):c.callee=.builtin .append/\∃a y x sp l e,c.args.toList=[.tmp a,y]/\fr.t.get a=some (.slice (some ⟨b,x,sp⟩) l e):=by unfold qEK at h;grind
theorem hU{fr:Fr}{o:Oper}{b:Nat}(h:xO fr o b=true):(∃t a x c s,o.op=.store t (.tmp a) x/\fr.t.get a=some (.pointer (some ⟨b,c,s⟩)))∨∃c,o.op=.call c/\qEK fr c=some b:=by
 unfold xO at h;split at h
 ·rename_i t a x y;split at h
  ·rename_i g c s e;have:=vE h;grind
  cases h
 ·rename_i c y;split at h
  ·simp_all
  cases h
 cases h
theorem qDK{E:Env}{H H':AH}{ats:List TypeId}{b i l p:Nat}{sp:Option Nat}{x:Value}{j:AR}(h:jV E H ats (.slice (some ⟨b,i,sp⟩) l p) x=some (j,H')):(∃v,j=.val v)/\∀c,c<H.next->c≠b->H'.blocks.get c=H.blocks.get c:=by
 unfold jV at h;split at h;case h_2=>cases h
 rename_i o;cases o;split at h;case h_2=>cases h
 split at h;case h_2=>cases h
 split at h;case h_2=>cases h
 rw[vQ]at h;split at h;case isFalse=>cases h
 rw[qY]at h;split at h
 ·cases h;exact⟨⟨_,rfl⟩,λ_ _ _=>rfl⟩
 split at h
 ·rename_i he;cases he
 ·rename_i he;cases he;rw[vQ]at h;split at h
  ·split at h
   ·rw[gG,qY]at h;split at h;case isFalse=>cases h
    rw[qY]at h;split at h;case isFalse=>cases h
    cases h;refine⟨⟨_,rfl⟩,λc g e=>?_⟩;rw[AH.get_move,if_neg (by omega),if_neg e]
   cases h
  rw[vQ]at h;split at h
  ·simp only[Option.map_eq_some_iff]at h;obtain⟨H1,y,h⟩:=h;cases h;refine⟨⟨_,rfl⟩,λc g e=>?_⟩;unfold AH.stores at y;split at y
   ·simp only[Option.map_eq_some_iff]at y;obtain⟨cs',_,rfl⟩:=y;rw[AH.get_write,if_neg e]
   cases y
  split at h
  ·cases h;refine⟨⟨_,rfl⟩,λc g e=>?_⟩;rw[AH.get_new,if_neg (by omega)]
  cases h
 cases h
structure Trace (E:Env) (ih:Cmd->AH->j9) (ts:List (Nat×Nat)) (ops:Array Oper) (frs:Nat->Fr) (Hs:Nat->AH):Prop where
 step:∀i,i<ops.size->∃o,ops[i]? = some o/\(qH8 ops (frs i) (Hs i) (frs (i+1)) (Hs (i+1)) o ∨
  ∃v Q,qH9 E ih (qJ ops.toList i ts) ops (frs i) (Hs i) (frs (i+1)) (Hs (i+1)) o v Q/\
   ((Hs i).next<=Q.low∨(qJ ops.toList i ts=[]/\((∃b,Tg ts (frs i) o i b)∨qZj ops ts i (Hs i).next Q.low)))/\∀b∈qJ ops.toList i ts,b<(Hs i).next∨Q.next<=b)
def qBf(E:Env)(ih:Cmd->AH->j9)(ts:List (Nat×Nat))(ops:Array Oper)(frs:Nat->Fr)(Hs:Nat->AH)(i:Nat):Prop:=
 ∃o v Q,ops[i]? = some o/\qH9 E ih (qJ ops.toList i ts) ops (frs i) (Hs i) (frs (i+1)) (Hs (i+1)) o v Q/\¬(Hs i).next<=Q.low
theorem qGk(E:Env)(ih:Cmd->AH->j9)(ts:List (Nat×Nat))(ops:Array Oper):∀(os:List Oper) (i:Nat) (fr fr':Fr) (H H':AH),ops.toList.drop i=os->i<=ops.size->
    zM E ih ops true ts os i fr H=some (fr',H')->
    ∃ (frs:Nat->Fr) (Hs:Nat->AH),frs i=fr/\Hs i=H/\frs ops.size=fr'/\Hs ops.size=H'/\∀j,i<=j->j<ops.size->∃o,ops[j]? = some o/\
      (qH8 ops (frs j) (Hs j) (frs (j+1)) (Hs (j+1)) o∨∃v Q,qH9 E ih (qJ ops.toList j ts) ops (frs j) (Hs j) (frs (j+1)) (Hs (j+1)) o v Q/\
      ((Hs j).next<=Q.low∨(qJ ops.toList j ts=[]/\((∃b,Tg ts (frs j) o j b)∨qZj ops ts j (Hs j).next Q.low)))/\∀b∈qJ ops.toList j ts,b<(Hs j).next∨Q.next<=b)
  | [],i,fr,fr',H,H',hd,hi,h=>by
    simp[zM]at h
    have hn:i=ops.size:=by
      have:=congrArg List.length hd
      simp at this;omega
    refine⟨λ_=>fr,λ_=>H,rfl,rfl,h.1,h.2,λj h1 h2=>by omega⟩
  | o :: os, i, fr,fr',H,H',hd,hi,h=>by
    have ho:ops[i]? = some o:=by
      have:=congrArg (·[0]?) hd
      simpa using this
    have hlt:i<ops.size:=(Array.getElem?_eq_some_iff.1 ho).1
    have hd':ops.toList.drop (i+1)=os:=by
      have:=congrArg (List.drop 1) hd
      rw[List.drop_drop]at this
      simpa using this
    have key:∀(fr1:Fr) (H1:AH),zM E ih ops true ts os (i+1) fr1 H1=some (fr',H')->
        (qH8 ops fr H fr1 H1 o∨∃v Q,qH9 E ih (qJ ops.toList i ts) ops fr H fr1 H1 o v Q/\(H.next<=Q.low∨(qJ ops.toList i ts=[]/\((∃b,Tg ts fr o i b)∨qZj ops ts i H.next Q.low)))/\∀b∈qJ ops.toList i ts,b<H.next∨Q.next<=b)->
        ∃ (frs:Nat->Fr) (Hs:Nat->AH),frs i=fr/\Hs i=H/\frs ops.size=fr'/\Hs ops.size=H'/\∀j,i<=j->j<ops.size->∃o,ops[j]? = some o/\
          (qH8 ops (frs j) (Hs j) (frs (j+1)) (Hs (j+1)) o∨∃v Q,qH9 E ih (qJ ops.toList j ts) ops (frs j) (Hs j) (frs (j+1)) (Hs (j+1)) o v Q/\
          ((Hs j).next<=Q.low∨(qJ ops.toList j ts=[]/\((∃b,Tg ts (frs j) o j b)∨qZj ops ts j (Hs j).next Q.low)))/\∀b∈qJ ops.toList j ts,b<(Hs j).next∨Q.next<=b):=by
      intro fr1 H1 hrun hfact
      obtain⟨frs,Hs,e1,e2,e3,e4,e5⟩:=qGk E ih ts ops os (i+1) fr1 fr' H1 H' hd' (by omega) hrun
      refine⟨λj=>if j=i then fr else frs j,λj=>if j=i then H else Hs j,by simp,by simp,?_,?_,?_⟩
      ·grind
      ·grind
      ·grind
    simp only[zM]at h
    split at h
    ·cases h
    · rename_i hw
      split at h
      · rename_i fr1 hp
        exact key fr1 H h (.inl ⟨hw,hp,rfl⟩)
      ·cases h
    · rename_i hw
      simp only[cond_true]at h
      split at h
      ·cases h
      · rename_i v H1 h1
        split at h
        ·cases h
        · rename_i fr1 hp
          unfold pE at h1
          simp only at h1
          split at h1
          · rename_i v1 Q hx
            cases hb:((Nat.ble H.next Q.low||((qJ ops.toList i ts).isEmpty&&(ts.any (λt=>Nat.beq t.1 i&&xO fr o t.2)||yY ops.toList ts i H.next Q.low)))&&(qJ ops.toList i ts).all (λb=>Nat.blt b H.next||Nat.ble Q.next b))with
            |false=>rw[hb]at h1;simp at h1
            | true=>
              rw[hb,cond_true]at h1
              cases h1
              rw[aE,Bool.or_eq_true,aE,Bool.or_eq_true]at hb
              obtain⟨hb,hb3⟩:=hb
              refine key fr1 _ h (.inr ⟨v,Q,⟨hw,hx,rfl,hp⟩,?_,λb hm=>?_⟩)
              rotate_left
              ·simp_all
              rcases hb with hb|⟨hb1,hb2⟩
              ·simp_all
              · refine .inr ⟨by simpa using hb1,?_⟩
                rcases hb2 with hb2|hb2
                · rw[List.any_eq_true]at hb2
                  obtain⟨⟨a,b⟩,hm,he⟩:=hb2
                  rw[aE]at he
                  have:a=i:=vE he.1
                  subst this
                  exact .inl ⟨b,hm,he.2⟩
                ·exact .inr (qFK hb2)
          ·cases h1
section
variable{E:Env}{ih:Cmd->AH->j9}{ts:List (Nat×Nat)}{ops:Array Oper}{frs:Nat->Fr}{Hs:Nat->AH}
structure TF (E:Env) (ih:Cmd->AH->j9) (ts:List (Nat×Nat)) (ops:Array Oper) (frs:Nat->Fr) (Hs:Nat->AH):Prop where
 next:∀i,i<ops.size->(Hs i).next<=(Hs (i+1)).next
 wf:∀i,i<=ops.size->∀b k,(Hs i).blocks.get b=some k->k.root<=b/\b<(Hs i).next
 pure:∀i,i<ops.size->¬qBf E ih ts ops frs Hs i->∀b,b<(Hs i).next->(Hs (i+1)).blocks.get b=(Hs i).blocks.get b
 low:∀i,i<ops.size->(Hs (i+1)).low<=(Hs i).low
 bars:∀i,i<ops.size->qBf E ih ts ops frs Hs i->qJ ops.toList i ts=[]/\(NF ts Hs i∨yT ops.toList i=true)
 nb:∀i,i<ops.size->qBf E ih ts ops frs Hs i->xF ops.toList i=false
theorem Trace.next(hu:rS ih)(x:Trace E ih ts ops frs Hs){i:Nat}(y:i<ops.size):(Hs i).next<=(Hs (i+1)).next:=by
 obtain⟨o,_,h|⟨v,Q,h,_⟩⟩:=x.step i y
 ·rw[h.2.2];exact lR _
 rw[h.2.2.1];have:=qCV hu h.2.1;exact this
theorem Trace.nexts(hu:rS ih)(tr:Trace E ih ts ops frs Hs){i:Nat}:∀{j:Nat},i<=j->j<=ops.size->(Hs i).next<=(Hs j).next
  | 0, h1, _ => by have:i=0:=by omega
                   subst this;exact lR _
  |j+1,h1,h2=>by
   by_cases h:i=j+1
   ·subst h;exact lR _
   ·exact lT (tr.nexts hu (by omega) (by omega)) (tr.next hu (by omega))
theorem qHC{fr:Fr}{o:Oper}{H Q:AH}{v p:Value}{t:TypeId}{a:Tmp}{x:Operand}(e:o.op=.store t (.tmp a) x)(g:fr.t.get a=some p)(h:vL E ih fr o H=some (v,Q)):∃u,kD E H t p u=some Q:=by
 have y:ev E fr (.tmp a)=some p:=g;obtain⟨u,hu⟩:∃u,vT E fr o H=(kD E H t p u).map (λH'=>(AR.skip,H'))∨vT E fr o H=none:=by
  unfold vT;simp only[e,y];cases ev E fr x with
  |none=>exact⟨.nilIface,.inr rfl⟩
  |some u=>cases u<;>first|exact⟨_,.inl rfl⟩|exact⟨.nilIface,.inr rfl⟩
 unfold vL at h;rcases hu with hu|hu
 ·rw[hu]at h;cases c:kD E H t p u with
  |none=>rw[c]at h;simp at h
  |some H1=>rw[c]at h;simp only[Option.map_some,oI,Prod.mk.injEq]at h;exact⟨u,by rw[c,h.2]⟩
 rw[hu]at h;simp at h
theorem qGl(hu:rS ih)(tr:Trace E ih ts ops frs Hs){σ0:zU}{w0:World}{tmps0:Array Value}(he:EOk E)(hc:∀f args H v H',ih (.call f args) H=some (.val v,H')->vU E f args H v H')(hro:∀l args H v H',ih (.round l args) H=some (.val v,H')->wO E l args H v H')(hr:HR E σ0 (Hs 0) w0)(hfr:aW σ0 (frs 0) tmps0)(hf:yD σ0 (Hs 0).next (Hs ops.size).next)(b:Frame):TF E ih ts ops frs Hs/\∃σ' w',Step E σ0 (Hs 0) w0 σ' (Hs ops.size) w':=by
 have chain : ∀ i, i <= ops.size -> ∃ σi wi tmpsi,Step E σ0 (Hs 0) w0 σi (Hs i) wi/\aW σi (frs i) tmpsi/\
     ∀ j,j<i->(∀b k,(Hs j).blocks.get b=some k->k.root<=b/\b<(Hs j).next)/\(Hs (j+1)).low<=(Hs j).low/\
       (¬qBf E ih ts ops frs Hs j->∀b,b<(Hs j).next->(Hs (j+1)).blocks.get b=(Hs j).blocks.get b)/\
       (∀o v Q,ops[j]? = some o->qH9 E ih (qJ ops.toList j ts) ops (frs j) (Hs j) (frs (j+1)) (Hs (j+1)) o v Q->∀b,b<(Hs j).next->b<Q.low->(Hs (j+1)).blocks.get b=(Hs j).blocks.get b):=by
   intro i
   induction i with
   |zero=>intro _;exact⟨σ0,w0,tmps0,Step.refl hr,hfr,λj hj=>by omega⟩
   | succ i IH =>
     intro hi
     obtain⟨σi,wi,tmpsi,st,hfi,hall⟩:=IH (by omega)
     have hri:=st.hr
     have hfree:yD σi (Hs i).next (Hs (i+1)).next:=by
       have h1:yD σi (Hs i).next (Hs ops.size).next:=hf.split st.ext st.next
       exact λb h2 h3=>h1 b h2 (Nat.lt_of_lt_of_le h3 (tr.nexts hu (by omega) (lR _)))
     obtain⟨o,ho,hx⟩:=tr.step i (by omega)
     rcases hx with hx|⟨v,Q,hx,hpure⟩
     · obtain⟨h1,h2,h3⟩:=hx
       refine⟨σi,wi,gZ tmpsi o.dst undef,by rw[h3];exact st,cG hfi h2 (.tuple .nil),λj hj=>?_⟩
       by_cases e:j=i
       · subst e
         refine⟨hri.wf,by rw[h3];exact lR _,λ_ b _=>by rw[h3],λo' v' Q' _ _ b _ _=>by rw[h3]⟩
       ·exact hall j (by omega)
     · obtain ⟨h1,h2,h3,h4⟩:=hx
       have hwt:=nO (tmps:=tmpsi) h1 (λj want _ d _ v hv=>hfi.2 d v hv)
       obtain⟨σ',w',v',g1,g2,_⟩:=qCU he hc hro (λf args H v H' h=>hu _ _ _ _ h) (λf args H v H' h=>hu _ _ _ _ h) (ops:=ops) (i:=i) (tmps:=tmpsi) h2 (hri.hide _)
         (by have e:Q.next=(Hs (i+1)).next:=by rw[h3];rfl
             intro b q1 q2;exact hfree b q1 (by omega))
         (λx _ v hv=>pQ (a:=⟨tmpsi,[]⟩) he hri hfi hv) ho hwt b [] [] [] []
       by_cases hp:(Hs i).next<=Q.low
       · have st2:Step E σi (Hs i) wi σ' (Hs (i+1)) w':=by
           rw[h3]
           exact Step.restore hri (by have e:Q.next=(Hs (i+1)).next:=by rw[h3];rfl
                                      rw[e];exact hfree) g2 hp
         refine⟨σ',w',gZ tmpsi o.dst v',st.trans st2,cG (hfi.mono (st2.le hfree)) h4 g1,λj hj=>?_⟩
         by_cases e:j=i
         · subst e
           have key:∀c,c<(Hs j).next->(Hs (j+1)).blocks.get c=(Hs j).blocks.get c:=by
             intro c hcn
             have p2:=g2.p2 (hri.hide _) hp c hcn
             rw[h3]
             show(yI Q.blocks (Hs j).blocks _).get c=_
             rw[xZ]
             split
             ·rfl
             · rename_i hW
               rw[p2]
               show(lK (Hs j).blocks _).get c=_
               rw[yO,if_neg hW]
           exact⟨hri.wf,st2.low,λ_ c hcn=>key c hcn,λ_ _ _ _ _ c hcn _=>key c hcn⟩
         ·exact hall j (by omega)
       · have hW:qJ ops.toList i ts=[]:=by
           rcases hpure with h|⟨h,_⟩
           ·exact absurd h hp
           ·exact h
         rw[hW]at g2 h3
         have st2:Step E σi (Hs i) wi σ' (Hs (i+1)) w':=by
           rw[h3];exact g2.lower
         refine⟨σ',w',gZ tmpsi o.dst v',st.trans st2,cG (hfi.mono (st2.le hfree)) h4 g1,λj hj=>?_⟩
         by_cases e:j=i
         · subst e
           refine⟨hri.wf,st2.low,λhb=>?_,λo' v' Q' ho' hq c hcn hcl=>?_⟩
           ·exact absurd ⟨o,v,Q,ho,⟨h1,h2,by rw[hW];exact h3,h4⟩,hp⟩ hb
           · rw[ho]at ho';cases ho'
             have:=h2.symm.trans hq.2.1
             cases this
             rw[h3]
             exact g2.p2low (hri.hide _) c hcn hcl
         ·exact hall j (by omega)
 obtain⟨σn,wn,tmpsn,stn,_,hall⟩:=chain ops.size (lR _);have hstore:∀i,i<ops.size->qBf E ih ts ops frs Hs i->qJ ops.toList i ts=[]->∀bt,TS ts ops frs i bt->∀b,b<(Hs i).next->b≠bt->(Hs (i+1)).blocks.get b=(Hs i).blocks.get b:=by
  rintro i hi hbar hW bt hbt c hclt hne;obtain⟨o,v,Q,ho,⟨h1,h2,h3,h4⟩,hnp⟩:=hbar;obtain⟨o',g1,_,g4⟩:=hbt;rw[ho]at g1;cases g1;rw[hW]at h2 h3;rcases hU g4 with⟨t,a,x,cc,s,g2,g3⟩|⟨cl,g2,g3⟩;case inr=>
   obtain⟨k1,a,y,x,sp,l,cp,k2,k3⟩:=qJB g3;have hap:∃yv,vT E (frs i) o (zR (Hs i) [])=jV E (zR (Hs i) []) cl.argTypes.toList (.slice (some ⟨bt,x,sp⟩) l cp) yv∨vT E (frs i) o (zR (Hs i) [])=none:=by
    unfold vT;simp only[g2,yL,k1,k2];have hta:ev E (frs i) (.tmp a)=some (.slice (some ⟨bt,x,sp⟩) l cp):=k3;simp only[rO,hta];cases hy:ev E (frs i) y with
    |none=>exact⟨.nilIface,.inr (by simp)⟩
    |some yv=>exact⟨yv,.inl (by simp[xR])⟩
   obtain⟨yv,hap⟩:=hap;unfold vL at h2;rcases hap with hap|hap
   ·rw[hap]at h2;cases hx:jV E (zR (Hs i) []) cl.argTypes.toList (.slice (some ⟨bt,x,sp⟩) l cp) yv with
    |none=>rw[hx]at h2;cases h2
    |some r=>obtain⟨ar,H1⟩:=r;obtain⟨⟨v1,rfl⟩,hfr⟩:=qDK hx;rw[hx]at h2;cases h2;rw[h3];exact hfr c hclt hne
   ·rw[hap]at h2;cases h2
  obtain⟨u,hst⟩:=qHC g2 g3 h2;unfold kD at hst;split at hst
  ·rename_i ti bb oo heq ht;cases ht;simp only[qY]at hst;split at hst;case isFalse=>cases hst
   unfold AH.stores at hst;split at hst
   ·simp only[Option.map_eq_some_iff]at hst;obtain⟨cs',_,rfl⟩:=hst;rw[h3];simp only[jK,yI];rw[AH.get_write,if_neg hne];rfl
   ·cases hst
  ·cases hst
 have hbars:∀i,i<ops.size->qBf E ih ts ops frs Hs i->qJ ops.toList i ts=[]/\(NF ts Hs i∨yT ops.toList i=true)/\xF ops.toList i=false:=by
  rintro i hi hbar0;obtain⟨o,v,Q,ho,hrun,hnp⟩:=hbar0;have hbar:qBf E ih ts ops frs Hs i:=⟨o,v,Q,ho,hrun,hnp⟩;obtain⟨o',ho',hx⟩:=tr.step i hi;rw[ho]at ho';cases ho';rcases hx with hx|⟨v',Q',hx,hp⟩
  ·exact absurd (hrun.1.symm.trans hx.1) (by simp)
  ·have:=hx.2.1.symm.trans hrun.2.1;cases this;obtain⟨q1,q2⟩:=hp.1.resolve_left hnp;refine⟨q1,?_⟩;rcases q2 with⟨b,hb⟩|q2|⟨q2,q3⟩
   ·refine⟨.inl ⟨⟨b,hb.1⟩,λc hc hn=>hstore i hi hbar q1 b ⟨o,ho,hb⟩ c hc (λe=>hn (e▸hb.1))⟩,?_⟩;have g1':ops.toList[i]? = some o:=by simpa using ho
    rcases hU hb.2 with⟨t,a,x,cc,s,g2,_⟩|⟨c,g2,_⟩
    ·simp only[xF,g1',g2,fS]
    ·simp only[xF,g1',g2,fS]
   ·exact⟨.inr q2,qHv q2⟩
   ·refine⟨.inl ⟨⟨_,q3 _ (lR _) (by omega)⟩,λc hc hn=>(hall i hi).2.2.2 o v Q ho hrun c hc ?_⟩,q2⟩;rcases Nat.lt_or_ge c Q.low with h|h
    ·exact h
    ·exact absurd (q3 c h hc) hn
 refine⟨⟨λi hi=>tr.next hu hi,?_,λi hi=>(hall i hi).2.2.1,λi hi=>(hall i hi).2.1,λi hi hb=>⟨(hbars i hi hb).1,(hbars i hi hb).2.1⟩,λi hi hb=>(hbars i hi hb).2.2⟩,σn,wn,stn⟩;intro i hi;by_cases e:i=ops.size
 ·subst e;exact stn.hr.wf
 ·exact(hall i (by omega)).1
end
end Go.Am
namespace Go.Am
open Go
theorem qLm{ms:List Nat}{i j:Nat}(h:i≠j):rG ms i j=rG ms j i:=by
 unfold rG;by_cases x:i<j
 ·have e:Nat.blt i j=true:=bL x;have c:Nat.blt j i=false:=by
   cases y:Nat.blt j i with
   |false=>rfl
   | true => have:j<i:=o9 y
             omega
  rw[e,c];rfl
 ·have e:Nat.blt j i=true:=bL (show j+1<=i by omega);have c:Nat.blt i j=false:=by
   cases y:Nat.blt i j with
   |false=>rfl
   | true => have:i<j:=o9 y
             omega
  rw[e,c];rfl
def qC8(Hs:Nat->AH):Nat->Nat->Nat->Option ABlk
 |0,t,b=>if b<(Hs t).next then(Hs t).blocks.get b else none
 |s+1,t,b=>if b<(Hs t).next then(Hs t).blocks.get b else qC8 Hs s (t+1) b
def rQ(Hs:Nat->AH)(n t b:Nat):Option ABlk:=qC8 Hs (n-t) t b
section
variable{Hs:Nat->AH}{n:Nat}
theorem oV{t b:Nat}(h:b<(Hs t).next):rQ Hs n t b=(Hs t).blocks.get b:=by unfold rQ;cases n-t<;>simp[qC8,h]
theorem qAy{t b:Nat}(x:t<n)(h:¬b<(Hs t).next):rQ Hs n t b=rQ Hs n (t+1) b:=by
 unfold rQ;have:n-t=(n-(t+1))+1:=by omega
 rw[this];simp[qC8,h]
theorem uH(h:∀i j,i<=j->j<=n->(Hs i).next<=(Hs j).next){k b:Nat}(x:k<n)(c:(Hs k).next<=b)(y:b<(Hs (k+1)).next):∀(d t:Nat),t+d=k->rQ Hs n t b=(Hs (k+1)).blocks.get b
 |0,t,e=>by
  have:t=k:=by omega
  subst this;rw[qAy x (by omega),oV y]
 |d+1,t,e=>by have:=h t k (by omega) (by omega);rw[qAy (by omega) (by omega)];exact uH h x c y d (t+1) (by omega)
theorem fP(x:∀i j,i<=j->j<=n->(Hs i).next<=(Hs j).next){b:Nat}(h:(Hs n).next<=b):∀(d t:Nat),t+d=n->rQ Hs n t b=none
 |0,t,e=>by
  have:t=n:=by omega
  subst this;unfold rQ;simp only[Nat.sub_self,qC8];rw[if_neg (by omega)]
 |d+1,t,e=>by have:=x t n (by omega) (lR _);rw[qAy (by omega) (by omega)];exact fP x h d (t+1) (by omega)
theorem qBQ{b:Nat}:∀(d t:Nat),t+d=n->(Hs t).next<=b->b<(Hs n).next->∃k,t<=k/\k<n/\(Hs k).next<=b/\b<(Hs (k+1)).next
 |0,t,e,y,x=>by grind
 |d+1,t,e,y,x=>by
  by_cases h:b<(Hs (t+1)).next
  ·grind
  obtain⟨k,g1,g2,g3,g4⟩:=qBQ d (t+1) (by omega) (by omega) x;grind
end
section
variable{E:Env}{ih:Cmd->AH->j9}{ts:List (Nat×Nat)}{ops:Array Oper}{frs:Nat->Fr}{Hs:Nat->AH}
def mN(ops:Array Oper)(m:Nat)(x:Tmp):Prop:=∃o,ops[m]? = some o/\o.dst=some x
def qDy(ops:Array Oper)(S:Nat->Prop)(j:Nat)(x:Tmp):Prop:=(j=0∨∃m,j=m+1/\S m/\mN ops m x)/\∀m,S m->mN ops m x->m+1<=j
theorem qN5{m:Nat}{x:Tmp}(h:mN ops m x):m<ops.size:=by obtain⟨o,y,_⟩:=h;grind
theorem kF(hu:rS ih)(tr:Trace E ih ts ops frs Hs)(tf:TF E ih ts ops frs Hs){p b:Nat}(hb:b<(Hs p).next):∀{q:Nat},p<=q->q<=ops.size->
    (∀j,p<=j->j<q->qBf E ih ts ops frs Hs j->NF ts Hs j/\(j,b)∉ts)->(Hs q).blocks.get b=(Hs p).blocks.get b
  | 0, h1, _, _ => by have:p=0:=by omega
                      subst this;rfl
  | q + 1,h1,h2,h=>by
    by_cases e:p=q+1
    ·subst e;rfl
    · have ih1:=kF hu tr tf hb (q:=q) (by omega) (by omega) λj g1 g2=>h j g1 (by omega)
      have hlt:b<(Hs q).next:=Nat.lt_of_lt_of_le hb (tr.nexts hu (by omega) (by omega))
      rw[←ih1]
      by_cases hbar:qBf E ih ts ops frs Hs q
      · obtain⟨g1,g2⟩:=h q (by omega) (by omega) hbar
        exact g1.2 b hlt g2
      ·exact tf.pure q (by omega) hbar b hlt
theorem qDp{j:Nat}(h:qBf E ih ts ops frs Hs j):j<ops.size:=by obtain⟨o,_,_,x,_⟩:=h;grind
theorem fZ(o:TF E ih ts ops frs Hs){i j:Nat}(q:i<ops.size)(l:qBf E ih ts ops frs Hs j)(x:j≠i)(c:xF ops.toList i=false)(y:rG (kI ops.toList) j i=false):NF ts Hs j/\∀g,(j,g)∈ts->g∈qJ ops.toList i ts:=by
 rcases(o.bars j (qDp l) l).2 with h|h
 ·exact⟨h,λg p=>qCy p x y⟩
 have:=qHu h (j:=i) (by simpa using q) (λe=>x e.symm) c;rw[qLm (λe=>x e.symm)]at this;rw[this]at y;cases y
theorem qMy(y:TF E ih ts ops frs Hs){i j:Nat}(h:qBf E ih ts ops frs Hs i)(g:qBf E ih ts ops frs Hs j)(c:j≠i):rG (kI ops.toList) j i=true:=by
 cases e:rG (kI ops.toList) j i with
 |true=>rfl
 |false=>obtain⟨l,x⟩:=fZ y (qDp h) g c (y.nb i (qDp h) h) e;obtain⟨o,h3⟩:=l.1;have x:=x o h3;rw[(y.bars i (qDp h) h).1]at x;simp at x
structure Inv (E:Env) (ih:Cmd->AH->j9) (ts:List (Nat×Nat)) (ops:Array Oper) (frs:Nat->Fr) (Hs:Nat->AH) (σ0:zU) (w0:World) (t:Nat) (S:Nat->Prop) (σ:zU) (w:World) (tmps:Array Value):Prop where
 tle:t<=ops.size
 a1:∀j,j<t->qBf E ih ts ops frs Hs j->S j
 a2:∀j,t<=j->qBf E ih ts ops frs Hs j->¬S j
 a3:t=ops.size∨qBf E ih ts ops frs Hs t
 down:∀j a,S j->Anc ops.toList a j->S a
 slt:∀j,S j->j<ops.size
 objs:∀b k L,rQ Hs ops.size t b=some k->σ b=some L->∃o,w.heap[L.blk]? = some o/\oA E σ L k.own k.obj o
 sep:∀b₁ b₂ k₁ k₂ L₁ L₂,rQ Hs ops.size t b₁=some k₁->rQ Hs ops.size t b₂=some k₂->k₁.own=true->σ b₁=some L₁->σ b₂=some L₂->b₁≠b₂->L₁.blk≠L₂.blk
 glob:∀g,g<E.prog.globals.size->∃L,σ g=some L/\L.blk=g/\L.off=0
 free:∀j,j<ops.size->¬S j->∀b,(Hs j).next<=b->b<(Hs (j+1)).next->σ b=none
 ext:∀b,b<(Hs 0).next∨(Hs ops.size).next<=b->σ b=σ0 b
 tsz:tmps.size=(frs 0).sz
 slots:∀j x v,j<=ops.size->qDy ops S j x->(frs j).t.get x=some v->VR σ v (tmps.getD x undef)
 size:w0.heap.size<=w.heap.size
 tape:w.tape=w0.tape
 os:w.os=w0.os
 output:w.output=w0.output/\(E.laid=[]->w0.drawn<=w.drawn)
 frame:∀B,B<w0.heap.size->(∀b k L,(Hs 0).blocks.get b=some k->k.own=true->σ0 b=some L->(Hs ops.size).low<=k.root->L.blk≠B)->w.heap[B]? = w0.heap[B]?
 origin:∀b k L,rQ Hs ops.size t b=some k->k.own=true->σ b=some L->w0.heap.size<=L.blk ∨
  ∃b₀ k₀ L₀,(Hs 0).blocks.get b₀=some k₀/\k₀.own=true/\σ0 b₀=some L₀/\L₀.blk=L.blk/\k₀.root=k.root
theorem qIp(t:bD ops.toList=true)(N:Trace E ih ts ops frs Hs){S:Nat->Prop}(l:∀j a,S j->Anc ops.toList a j->S a)(I:∀j,S j->j<ops.size){i:Nat}{o:Oper}(J:ops[i]? = some o)(L:¬S i)(c:∀a,Anc ops.toList a i->S a){x:Tmp}(g:x∈lH ops.toList o):∃j,j<=i/\qDy ops S j x/\(frs j).t.get x=(frs i).t.get x:=by
 have K:i<ops.size:=(Array.getElem?_eq_some_iff.1 J).1;have C:ops.toList[i]? = some o:=by simpa using J
 have find:∀m,m<=i->∃j,j<=m/\(j=0∨∃p,j=p+1/\mN ops p x)/\(∀p,p<m->mN ops p x->p+1<=j)/\(frs j).t.get x=(frs m).t.get x:=by
  intro m;induction m with
  |zero=>intro _;exact⟨0,lR _,.inl rfl,λp h=>by omega,rfl⟩
  | succ m U=>
   intro F;obtain⟨j,M,A,h3,G⟩:=U (by omega);by_cases O:mN ops m x
   ·grind
   refine⟨j,by omega,A,λp h R=>?_,?_⟩
   ·grind
   rw[G];obtain⟨q,B,g⟩:=N.step m (by omega);have y:q.dst≠some x:=λe=>O ⟨q,B,e⟩;have h:∃v,wR (frs m) q.dst v=some (frs (m+1)):=by
    rcases g with g|⟨v,Q,g,_⟩
    ·exact⟨_,g.2.1⟩
    exact⟨_,g.2.2.2⟩
   obtain⟨v,h⟩:=h;unfold wR at h;cases hd:q.dst with
   |none=>rw[hd]at h;rw[←Option.some.inj h]
   |some d=>
    rw[hd]at h y;simp only[vQ]at h;split at h;case isFalse=>cases h
    rw[←Option.some.inj h];simp only[T.get_put];grind
 have r:∀k,k≠i->mN ops k x->rG (kI ops.toList) k i=true:=by rintro k y ⟨q,B,hd⟩;exact qAO t C (by simpa using B) y hd g
 obtain⟨j,M,A,h3,G⟩:=find i (lR _);refine⟨j,M,⟨?_,?_⟩,G⟩
 ·rcases A with A|⟨p,rfl,h⟩
  ·exact .inl A
  exact .inr ⟨p,rfl,c p ((l8 (r p (by omega) h)).1 (by omega)),h⟩
 intro m F u;have y:m≠i:=λe=>L (e▸F);by_cases z:m<i
 ·exact h3 m z u
 exact absurd (l m i F ((l8 (r m y u)).2 z)) L
theorem b9(A:bD ops.toList=true)(Z:Trace E ih ts ops frs Hs){S:Nat->Prop}(l:∀j a,S j->Anc ops.toList a j->S a){i:Nat}{o:Oper}(F:ops[i]? = some o)(O:¬S i){σ σ':zU}(I:zU.le σ σ'){tmps:Array Value}(z:tmps.size=(frs 0).sz)(t:(frs i).sz=(frs 0).sz)(V:∀j x v,j<=ops.size->qDy ops S j x->(frs j).t.get x=some v->VR σ v (tmps.getD x undef)){v v':Value}(p:wR (frs i) o.dst v=some (frs (i+1)))(hv:VR σ' v v'):(∀j x u,j<=ops.size->qDy ops (λm=>S m∨m=i) j x->(frs j).t.get x=some u->VR σ' u ((gZ tmps o.dst v').getD x undef))/\(gZ tmps o.dst v').size=(frs 0).sz:=by
 have N:i<ops.size:=(Array.getElem?_eq_some_iff.1 F).1;have L:ops.toList[i]? = some o:=by simpa using F
 constructor
 ·intro j x u X G hu;by_cases r:o.dst=some x
  ·
   -- written here
   have K:mN ops i x:=⟨o,F,r⟩;have M:j=i+1:=by
    have h1:=G.2 i (.inr rfl) K;rcases G.1 with R|⟨m,rfl,hm,h⟩
    ·omega
    rcases hm with hm|rfl
    ·by_cases g:m<i
     ·omega
     have c:m≠i:=λe=>O (e▸hm);obtain⟨q,C,y⟩:=h;have U:=qAO A L (show ops.toList[m]? = some q by simpa using C) c y (by unfold lH;simp[r]);exact absurd (l m i hm ((l8 U).2 g)) O
    rfl
   subst M;rw[r]at p ⊢;unfold wR at p;simp only[vQ]at p;split at p;case isFalse=>cases p
   rename_i g;rw[←Option.some.inj p]at hu;simp only[T.get_put,if_true,oI]at hu;subst hu;have J:x<tmps.size:=by rw[z,←t];exact g
   have:(gZ tmps (some x) v').getD x undef=v':=by simp[gZ,Array.getD,J]
   rw[this];exact hv
  have B:qDy ops S j x:=by
   refine⟨?_,λm hm h=>G.2 m (.inl hm) h⟩;rcases G.1 with R|⟨m,rfl,hm,h⟩
   ·exact .inl R
   refine .inr ⟨m,rfl,?_,h⟩;rcases hm with hm|rfl
   ·exact hm
   obtain⟨q,C,y⟩:=h;rw[F]at C;cases C;exact absurd y r
  have W:=V j x u X B hu;have:(gZ tmps o.dst v').getD x undef=tmps.getD x undef:=by
   cases hd:o.dst with
   |none=>rfl
   |some d=>have c:¬d=x:=λe=>r (by rw[hd,e]);simp[gZ,Array.getElem?_setIfInBounds,c]
  rw[this];exact W.mono I
 cases hd:o.dst<;>simp[gZ,z]
end
end Go.Am
