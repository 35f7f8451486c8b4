/- Nothing. -/
import Derived.Test.YtminhjecpnpaeaaGreatDoorSx6
set_option linter.unusedVariables false
set_option linter.unusedSimpArgs false
namespace Go.Am
end Go.Am
namespace Go.Am
end Go.Am
namespace Go.Am
open Go
structure Lst where
 f:FuncId
 ex:Option FuncId
 cut:Bool
 G:List D->Option D
structure Gro where
 f:FuncId
 G:List D->Option D
def Lst.xv(Y:Lst):List Value:=match Y.ex with
 |none=>[]
 |some g=>[.func (.func g) #[] #[]]
def qU0:Option FuncId->List SV->Bool
 |none,[]=>true
 |some g,[.fn (.func g') [] []]=>Nat.beq g' g
 |_,_=>false
def qKH:List Lst->FuncId->List SV->Option Lst
 | [],_,_=>none
 |Y::r,g,xs=>bif Nat.beq Y.f g&&qU0 Y.ex xs then some Y else qKH r g xs
def qKI:List Gro->FuncId->Option Gro
 | [],_=>none
 |Y::r,g=>bif Nat.beq Y.f g then some Y else qKI r g
def qUR(Y:Lst)(i:Nat)(S:St)(κ:K1):Tree:=
 bif S.freshV i then .bind (.lib Y.G) [.v i] (bif Y.cut then κ (.v S.n) ((S.kill i).new .fresh true)else κ (.tup []) (S.setted i))else .fail
def qU6(Y:Gro)(x:SV)(S:St)(κ:K1):Tree:=
 bif wB S x then .bind (.lib Y.G) [x] (κ (.v S.n) (S.new .fresh true))else .fail
def qX4(Ls:List Lst)(y:List Gro)(g:FuncId)(h:List SV)(S:St)(κ:K1):Option Tree:=match h with
 |.v i::xs=>match qKH Ls g xs with
  |some Y=>some (qUR Y i S κ)
  |none=>none
 | [.c (.slice none 0 0),x]=>match qKI y g with
  |some Y=>some (qU6 Y x S κ)
  |none=>none
 |_=>none
def qZI(E:Env)(Ls:List Lst)(x:List Gro):qDx:=λo S κ=>match o.op with
 | .call c=>match c.callee,bO S c.args.toList with
  | .value f,some h=>match rP S f with
   |some (.fn (.func g) [] [])=>match qX4 Ls x g h S κ with
    |some t=>t
    |none=>vZ E o S κ
   |_=>vZ E o S κ
  |_,_=>vZ E o S κ
 |_=>vZ E o S κ
def lI(mx el sz:Nat)(P:D->Bool)(F:List D->List D):List D->Option D
 | [.nil]=>some .nil
 | [.sl zS h es]=>bif Nat.beq zS el&&Nat.beq h sz&&es.all P&&Nat.ble es.length mx then some (.sl el sz (F es))else none
 |_=>none
def qYg(el sz bytes:Nat):List D->Option D
 | [.leaf (.int .i64 (.ofNat n))]=>bif Nat.ble (Nat.mul n (Nat.succ (Nat.add bytes sz))) 100000000 then some (bif Nat.beq n 0 then .nil else .sl el sz [])else none
 |_=>none
def zAN:D->List Value
 |.leaf v=>[v]
 |_=>[]
def qPR(e:D):List Value:=e.cells.flatMap zAN
def qKm(es:List D):List Value:=es.flatMap qPR
def qEP(sz:Nat)(e:D):Prop:=∃h:List Value,e.cells=h.map D.leaf/\h.length=sz/\∀w∈h,wJ w=true/\qE w=true
theorem qIN:∀h:List Value,(h.map D.leaf).flatMap zAN=h
 | []=>rfl
 |w::r=>by rw[List.map_cons,List.flatMap_cons,qIN r];rfl
theorem qEP.lv{sz:Nat}{e:D}(h:qEP sz e):e.cells=(qPR e).map D.leaf/\(qPR e).length=sz/\∀w∈qPR e,wJ w=true/\qE w=true:=by
 obtain⟨y,x,b,h3⟩:=h;have:qPR e=y:=by unfold qPR;rw[x,qIN]
 rw[this];exact⟨x,b,h3⟩
theorem qIM{sz:Nat}:∀{es:List D},(∀e∈es,qEP sz e)->es.flatMap D.cells=(qKm es).map D.leaf/\(qKm es).length=es.length*sz/\∀w∈qKm es,wJ w=true/\qE w=true
 | [],_=>⟨rfl,by simp[qKm],λ_ h=>by cases h⟩
 |e::r,h=>by obtain⟨a1,a2,a3⟩:=(h e List.mem_cons_self).lv;obtain⟨j,i,c⟩:=qIM λx y=>h x (mC _ y);have b:qKm (e::r)=qPR e++qKm r:=rfl;grind
theorem qG2{g:zB}:∀{x vs:List Value},DRs g (x.map D.leaf) vs->vs=x
 | [],vs,h=>by cases h;rfl
 |w::r,vs,h=>by
  cases h with
  |cons b y=>rw[b.leaf_inv.1,qG2 y]
theorem qG3{g:zB}:∀{y:List Value},(∀w∈y,wJ w=true)->DRs g (y.map D.leaf) y
 | [],_=>.nil
 |w::r,h=>.cons (.leaf (h w List.mem_cons_self)) (qG3 λx b=>h x (mC _ b))
structure LstOK (E:Env) (Y:Lst) (el sz:Nat) (P:D->Bool) (F:List D->List D) (mx:Nat:=1000000000):Prop where
 ff:∃fn,E.funcs.get Y.f=some fn
 G:Y.G=lI mx el sz P F
 flat:∀e,P e=true->qEP sz e
 mem:∀es,(∀e∈es,P e=true)->∀e∈F es,P e=true
 len:∀es,(∀e∈es,P e=true)->(F es).length<=es.length/\(Y.cut=false->(F es).length=es.length)
 no:∀{H:AH} {v:Value},(v=.slice none 0 0∨∃a,v=.slice (some a) 0 0)->vU E Y.f (v::Y.xv) H (bif Y.cut then v else .tuple #[]) H
 ok:∀{H:AH} {B rt:Nat} {cs:List Value} {es:List D},H.blocks.get B=some ⟨.cells cs el,rt,true⟩->take? cs (es.length*sz)=some (qKm es)->(∀e∈es,P e=true)->es.length<=mx->
  ∃(r:List Value) (H':AH),vU E Y.f (.slice (some ⟨B,0,none⟩) es.length qT::Y.xv) H (bif Y.cut then .slice (some ⟨B,0,none⟩) (F es).length qT else .tuple #[]) H'/\
   take? r ((F es).length*sz)=some (qKm (F es))/\H'.blocks.get B=some ⟨.cells r el,rt,true⟩/\(∀b,b≠B->H'.blocks.get b=H.blocks.get b)/\H'.next=H.next/\Nat.min (Nat.min H.low H.next) rt<=H'.low
structure GroOK (E:Env) (Y:Gro) (el sz bytes:Nat):Prop where
 ff:∃fn,E.funcs.get Y.f=some fn
 G:Y.G=qYg el sz bytes
 ok:∀{H:AH} {n:Nat},n*(bytes+sz+1)<=100000000->∃(v:Value) (H':AH),vU E Y.f [.slice none 0 0,goInt n] H v H'/\H.next<=H'.next/\(∀b,b<H.next->H'.blocks.get b=H.blocks.get b)/\(WF H->WF H')/\Nat.min H.low H.next<=H'.low/\
  ((n=0/\v=.slice none 0 0)∨(n≠0/\∃(B rt:Nat) (cs:List Value),H.next<=B/\H.next<=rt/\v=.slice (some ⟨B,0,none⟩) 0 qT/\H'.blocks.get B=some ⟨.cells cs el,rt,true⟩))
section
variable{E:Env}{n0:Lim}{H0:AH}{g0:zB}{S:St}{ρ:List D}{ve:Nat->Value}{lb:Nat->Nat}{g:zB}{fr:Fr}{H:AH}{Q:Res1->Prop}{HS:FuncId->List D->D->Prop}{Y:Lst}{el sz:Nat}{P:D->Bool}{F:List D->List D}{mx:Nat}
theorem qLt{i:Nat}{d:D}{H':AH}(k:i<S.n)(c:SR E n0 H0 g0 ((S.kill i).new .fresh true) (ρ++[d]) (mW ve S.n (ve i)) lb g fr H'):SR E n0 H0 g0 (S.setted i) (ρ++[d]) (mW ve S.n (ve i)) lb g fr H':=by refine {c with slots:=?_};intro b y j;have h:(S.slots.map (SV.ren i S.n)).get b=some y:=j;rw[Go.Am.T.get_map]at h;simp only[Option.map_eq_some_iff]at h;obtain⟨e,x,rfl⟩:=h;obtain⟨p1,p2⟩:=c.slots b e x;refine⟨qUj p1 (by show S.n<((S.kill i).new .fresh true).n;rw[xQ,oO];omega),?_⟩;rw[qQq (by rw[jA,iK k])];exact p2
theorem qUQ(I:LstOK E Y el sz P F mx)(h:SR E n0 H0 g0 S ρ ve lb g fr H){o:Oper}{κ:K1}{i:Nat}(ha:vT E fr o H=some (.enter Y.f (ve i::Y.xv),H))(C:wp E HS Q (qUR Y i S κ) ρ):oZ E HS Q n0 H0 g0 fr H o κ:=by
 unfold qUR at C;obtain⟨J,z⟩:=jC C;simp only[wp]at z;split at z;case h_2=>cases z
 rename_i d hd;rw[qO4,I.G]at hd;simp only[SV.ds]at hd;obtain⟨of,hst⟩:=zC.1 J;have hi:i<S.n:=tU J;have hv:=(h.vars i _ hst).2
 have fin:∀{H':AH} {d:D} {v:Value},(Y.cut=false->v=ve i)->kW g H'.blocks.get n0 d v->d.one=true->SR E n0 H0 g0 (S.kill i) ρ ve lb g fr H'->(∀B,vR v=some B->vR (ve i)=some B)->
   vU E Y.f (ve i::Y.xv) H (bif Y.cut then v else .tuple #[]) H'->H.next<=H'.next->wp E HS Q (bif Y.cut then κ (.v S.n) ((S.kill i).new .fresh true)else κ (.tup []) (S.setted i)) (ρ++[d])->oZ E HS Q n0 H0 g0 fr H o κ:=by
  intro H' d v M hfr U k2 x p V C
  have O:=k2.newFresh (d:=d) (v:=v) hfr U (λB N=>h.sepFG i B J (x B N)) (λB c N A e=>h.sepX c i A J (by rw[e];exact x B N))
   (λB jj N hf L=>by obtain⟨a1,a2⟩:=jE hf;exact a2 (h.sepF jj i B a1 J L (x B N)))
  rw[oO]at O
  cases t:Y.cut with
  | true=>
   rw[t]at C p
   refine⟨.v S.n,_,_,_,_,_,_,O.raise,?_,C,?_⟩
   ·show S.n<_
    rw[xQ,oO];omega
   have:(SV.v S.n).val (mW ve S.n v) lb=v:=by simp only[SV.val,jA]
   rw[this]
   exact .of_call ha p.raise (Nat.lt_succ_of_le V)
  |false=>
   have M:=M t
   subst M
   rw[t]at C p
   have k4:=qLt hi O
   exact⟨.tup [],_,_,_,_,_,_,k4.raise,trivial,C,.of_call ha p.raise (Nat.lt_succ_of_le V)⟩
 rcases hv with qn|⟨B,l,cs,vs,zS,rt,sz2,y,j⟩|⟨B,y,ck,rt,ks,dd,j⟩
 rotate_left 2
 ·have K:getD ρ i=.mp ks dd:=j.d;simp only[SV.d,K,lI]at hd;cases hd
 ·
  -- no R
  have hno:ve i=.slice none 0 0∨∃a,ve i=.slice (some a) 0 0:=by rcases qn with⟨h1,_⟩|⟨_,h1⟩;all_goals grind
  have hdd:d=getD ρ i:=by
   rcases qn.sl with hz|⟨_,_,hz⟩
   ·simp only[SV.d,hz,lI]at hd;grind
   simp only[SV.d,hz,lI]at hd;obtain⟨A,hd⟩:=qW hd;simp only[aE]at A;have e1:=vE A.1.1.1;have e2:=vE A.1.1.2;have e3:F []=[]:=List.length_eq_zero_iff.1 (Nat.le_zero.1 (I.len [] (λ_ q=>by cases q)).1);grind
  subst hdd;exact fin (λ_=>rfl) (.inl qn) qn.one (h.killed i) (λB N=>N) (I.no hno) (lR _) z
 have K:getD ρ i=.sl zS sz2 y:=j.d;simp only[SV.d,K,lI]at hd;obtain⟨A,hd2⟩:=qW hd;clear hd;simp only[aE,List.all_eq_true]at A;have e1:=(vE A.1.1.1).symm;have e2:=(vE A.1.1.2).symm;have W:=A.1.2;have hbd:=o9 A.2;subst e1 e2;have hd:=Option.some.inj hd2;have x:vR (ve i)=some B:=by rw[j.v];simp[vR]
 obtain⟨c1,c2,c4⟩:=qIM (sz:=sz) (es:=y) λe he=>I.flat e (W e he);have G:=j.r;rw[c1]at G;have G:=qG2 G;have ht:=j.t;rw[G,←j.n]at ht;obtain⟨r,H',k1,k2,O,k4,k5,k6⟩:=I.ok j.b ht W hbd;have X:∀e∈F y,qEP sz e:=λe he=>I.flat e (I.mem y W e he);obtain⟨f1,f2,f3⟩:=qIM X;have hwf:WF H':=λb k u=>by
  rw[k5];by_cases e:b=B
  ·subst e;rw[O]at u;cases u;exact⟨(h.wf b _ j.b).1,(h.wf b _ j.b).2⟩
  rw[k4 b e]at u;exact h.wf b k u
 have g2:=(h.killed i).heap2 (H':=H') (λb=>b=B) (λb _ u=>k4 b u) (λb u=>by subst u;exact h.sepFG i b J x) (λb c u hl e=>by subst u;exact h.sepX c i hl J (by rw[e];exact x)) (λb jj u hf L=>by subst u;obtain⟨a1,a2⟩:=jE hf;exact a2 (h.sepF jj i b a1 J L x)) (λb u=>by subst u;exact j.rt.2) hwf (Nat.le_of_eq k5.symm) (lT (Nat.le_min.2 ⟨Nat.le_min.2 ⟨h.low,lT (Nat.min_le_right _ _) h.base.1⟩,lT (Nat.min_le_right _ _) j.rt.1⟩) k6);have hx:=j.x;have hn:=j.n;have hle:=(I.len y W).1;rw[j.v]at x;refine fin (H':=H') (v:=.slice (some ⟨B,0,none⟩) (F y).length qT) (λt=>?_) ?_ ?_ g2 (λB' Z=>?_) ?_ (Nat.le_of_eq k5.symm) z
 ·rw[j.v,(I.len y W).2 t,hn]
 ·rw[←hd];refine .inr (.inl ⟨B,_,r,qKm (F y),el,rt,sz,F y,rfl,rfl,O,j.rt,k2,?_,rfl,λe he=>?_,by omega,?_⟩)
  ·rw[f1];exact qG3 λw C=>(f3 w C).1
  ·obtain⟨q1,q2,_⟩:=(X e he).lv;rw[q1,List.length_map,q2]
  grind
 ·rw[←hd];rfl
 ·rw[j.v];simp only[vR,lR,if_true,oI]at Z ⊢;exact Z
 rw[j.v,←hn];exact k1
theorem qU5{Y:Gro}{bytes:Nat}(M:GroOK E Y el sz bytes)(h:SR E n0 H0 g0 S ρ ve lb g fr H){o:Oper}{κ:K1}{x:SV}(L:vT E fr o H=some (.enter Y.f [.slice none 0 0,x.val ve lb],H))(J:wp E HS Q (qU6 Y x S κ) ρ):oZ E HS Q n0 H0 g0 fr H o κ:=by
 unfold qU6 at J;obtain⟨c3,b⟩:=jC J;have K:=zE h.toSM c3;simp only[wp]at b;split at b;case h_2=>cases b
 rename_i d hd;rw[qO4,M.G]at hd;simp only[SV.ds]at hd;generalize x.d (getD ρ)=dx at hd K;unfold qYg at hd;split at hd;case h_2=>cases hd
 rename_i n A;cases A;obtain⟨G,C⟩:=qW hd;clear hd;have hd:=Option.some.inj C;have w:n*(bytes+sz+1)<=100000000:=o9 G;have hv:=(K.dr rfl).leaf_inv.1;rw[hv]at L;obtain⟨v,H',W,I,V,U,R,O⟩:=M.ok (H:=H) w;have g2:=h.heap (H':=H') V (U h.wf) I (lT (Nat.le_min.2 ⟨h.low,lT (Nat.min_le_right _ _) h.base.1⟩) R);have r:kW g H'.blocks.get n0 d v->d.one=true->(∀B,vR v=some B->H.next<=B)->oZ E HS Q n0 H0 g0 fr H o κ:=by
  intro z l y;have N:=g2.newFresh (d:=d) (v:=v) z l (λB j=>by
    cases hg:g B with
    |none=>rfl
    |some k=>have:=qOC h.toSM hg;have:=y B j;omega)
   (λB c j G e=>by have:=(xL h.toSM G).1;have:=y B j;omega)
   (λB i j Z t=>by have:=(oM h.toSM Z t).1;have:=y B j;omega)
  refine⟨.v S.n,_,_,_,_,_,_,N.raise,?_,b,?_⟩
  ·show S.n<_;rw[xQ];omega
  have:(SV.v S.n).val (mW ve S.n v) lb=v:=by simp only[SV.val,jA]
  rw[this];exact .of_call L W.raise (Nat.lt_succ_of_le I)
 rcases O with⟨rfl,rfl⟩|⟨h0,B,rt,cs,b1,b2,rfl,b3⟩
 ·have hd:d=.nil:=hd.symm;subst hd;exact r (.inl (.inl ⟨rfl,rfl⟩)) rfl (λB j=>by cases j)
 have u:Nat.beq n 0=false:=by
  cases e:Nat.beq n 0 with
  |false=>rfl
  |true=>exact absurd (vE e) h0
 rw[u]at hd;have hd:d=.sl el sz []:=hd.symm;subst hd;refine r (.inr (.inl ⟨B,0,cs,[],el,rt,sz,[],rfl,rfl,b3,⟨lT h.base.1 b2,λX=>by have:=h.base.2 B X;omega⟩,by rw[Nat.zero_mul,take?],.nil,rfl,(λ_ q=>by cases q),by unfold qT;omega,rfl⟩)) rfl (λB' p=>?_);simp only[vR,lR,if_true,oI]at p;subst p;exact b1
theorem qOO{Ls:List Lst}{g:FuncId}{xs:List SV}(h:qKH Ls g xs=some Y):Y∈Ls/\Y.f=g/\SV.vals ve lb xs=Y.xv:=by
 induction Ls with
 |nil=>cases h
 | cons Z r ih=>
  unfold qKH at h;cases x:Nat.beq Z.f g&&qU0 Z.ex xs with
  |false=>grind
  |true=>
   rw[x]at h;cases h;simp only[aE]at x;refine⟨List.mem_cons_self,vE x.1,?_⟩;have y:=x.2;unfold qU0 at y;unfold Lst.xv;split at y
   ·rename_i e;rw[e];rfl
   ·rename_i e;rw[e,vE y];rfl
   cases y
theorem qOP{x:List Gro}{g:FuncId}{Y:Gro}(h:qKI x g=some Y):Y∈x/\Y.f=g:=by
 induction x with
 |nil=>cases h
 |cons Z r ih=>
  unfold qKI at h;cases y:Nat.beq Z.f g with
  |false=>grind
  |true=>simp_all
def qY3(E:Env)(Ls:List Lst)(h:List Gro):Prop:=(∀Y∈Ls,∃el sz P F mx,LstOK E Y el sz P F mx)/\∀Y∈h,∃el sz bytes,GroOK E Y el sz bytes
theorem qUy{Ls:List Lst}{G:List Gro}(hL:qY3 E Ls G){o:Oper}{κ:K1}(h:SR E n0 H0 g0 S ρ ve lb g fr H)(e:wp E (Holds E) Q (qZI E Ls G o S κ) ρ):oZ E (Holds E) Q n0 H0 g0 fr H o κ:=by
 have y:wp E (Holds E) Q (vZ E o S κ) ρ->oZ E (Holds E) Q n0 H0 g0 fr H o κ:=λe=>(eU h e).toR;unfold qZI at e;split at e
 ·rename_i c I;split at e;case h_2=>exact y e
  rename_i f q l k;obtain⟨L,J⟩:=rF (E:=E) h k;split at e;case h_2=>exact y e
  rename_i B w;obtain⟨K,C⟩:=zJ (E:=E) h w;simp only[SV.val]at C;have enter:(∃fn,E.funcs.get B=some fn)->vT E fr o H=some (.enter B (SV.vals ve lb q),H):=by intro⟨fn,z⟩;unfold vT;rw[I];simp only[yL,J,l,C,oU,z,SV.vals,List.append_nil,List.nil_append]
  split at e;case h_2=>exact y e
  rename_i t j;unfold qX4 at j;split at j
  ·rename_i i xs;split at j;case h_2=>cases j
   rename_i Y A;cases j;obtain⟨u,r,y3⟩:=qOO (ve:=ve) (lb:=lb) A;obtain⟨el,sz,P,F,mx,p⟩:=hL.1 Y u;subst r;have b:=enter p.ff;simp only[SV.vals,SV.val,y3]at b;exact qUQ p h b e
  ·rename_i x;split at j;case h_2=>cases j
   rename_i Y A;cases j;obtain⟨u,r⟩:=qOP A;obtain⟨el,sz,bytes,p⟩:=hL.2 Y u;subst r;have b:=enter p.ff;simp only[SV.vals,SV.val]at b;exact qU5 p h b e
  cases j
 exact y e
end
end Go.Am
