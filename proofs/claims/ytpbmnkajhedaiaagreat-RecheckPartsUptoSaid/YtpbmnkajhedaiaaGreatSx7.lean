/- Texts that are built up in a builder: writing and reading it, in symbolic runs. Conditions: none. -/
import Derived.Test.YtpbmnkajhedaiaaGreatSx6
set_option linter.all false
namespace Go.Am
open Go
structure Bld where
 w:FuncId
 s:FuncId
 t:TypeId
 bt:TypeId
 el:TypeId
 st:TypeId
 by_:Nat
def AH.up(H:AH):AH:={H with next:=H.next+1}
section
variable{E:Env}{n0:Lim}{H0:AH}{g0:zG}{S:St}{ρ:List D}{ve:Nat->Value}{lb:Nat->Nat}{g:zG}{fr:Fr}{H:AH}{Q:Res1->Prop}{HS:FuncId->List D->D->Prop}{B:Bld}
end
def isPtr(E:Env)(t u:TypeId):Bool:=match E.types.get t,E.types.get u with
 |some {desc:=.pointer h,..},some x=>Nat.beq h u&&Nat.ble 1 x.size
 |_,_=>false
section
variable{E:Env}{fr:Fr}{o:Oper}{H:AH}
end
structure Lst where
 f:FuncId
 ex:Option FuncId
 cut:Bool
 G:List D->Option D
structure Gro where
 f:FuncId
 G:List D->Option D
def Lst.xv(Y:Lst):List Value:=match Y.ex with
 |none=>[]
 |some g=>[.func (.func g) #[] #[]]
def qW1:Option FuncId->List SV->Bool
 |none,[]=>true
 |some g,[.fn (.func g') [] []]=>Nat.beq g' g
 |_,_=>false
def qKn:List Lst->FuncId->List SV->Option Lst
 | [],_,_=>none
 |Y::r,g,xs=>bif Nat.beq Y.f g&&qW1 Y.ex xs then some Y else qKn r g xs
def qKo:List Gro->FuncId->Option Gro
 | [],_=>none
 |Y::r,g=>bif Nat.beq Y.f g then some Y else qKo r g
def qWP(Y:Lst)(i:Nat)(S:St)(κ:K1):Tree:=
 bif S.freshV i then .bind (.lib Y.G) [.v i] (bif Y.cut then κ (.v S.n) ((S.kill i).new .fresh true)else κ (.tup []) (S.setted i))else .fail
def qW6(Y:Gro)(x:SV)(S:St)(κ:K1):Tree:=
 bif wG S x then .bind (.lib Y.G) [x] (κ (.v S.n) (S.new .fresh true))else .fail
def qZZ(Ls:List Lst)(Gs:List Gro)(g:FuncId)(h:List SV)(S:St)(κ:K1):Option Tree:=match h with
 |.v i::xs=>match qKn Ls g xs with
  |some Y=>some (qWP Y i S κ)
  |none=>none
 | [.c (.slice none 0 0),x]=>match qKo Gs g with
  |some Y=>some (qW6 Y x S κ)
  |none=>none
 |_=>none
def qUP(E:Env)(Ls:List Lst)(Gs:List Gro):qKV:=λo S κ=>match o.op with
 | .call c=>match c.callee,cL S c.args.toList with
  | .value f,some h=>match pW S f with
   |some (.fn (.func g) [] [])=>match qZZ Ls Gs g h S κ with
    |some t=>t
    |none=>vZ E o S κ
   |_=>vZ E o S κ
  |_,_=>vZ E o S κ
 |_=>vZ E o S κ
def s6(mx el sz:Nat)(P:D->Bool)(F:List D->List D):List D->Option D
 | [.nil]=>some .nil
 | [.sl vK h es]=>bif Nat.beq vK el&&Nat.beq h sz&&es.all P&&Nat.ble es.length mx then some (.sl el sz (F es))else none
 |_=>none
def zAk(el sz bytes:Nat):List D->Option D
 | [.leaf (.int .i64 (.ofNat n))]=>bif Nat.ble (Nat.mul n (Nat.succ (Nat.add bytes sz))) 100000000 then some (bif Nat.beq n 0 then .nil else .sl el sz [])else none
 |_=>none
def zE0:D->List Value
 |.leaf v=>[v]
 |_=>[]
def qQN(e:D):List Value:=e.cells.flatMap zE0
def qLE(es:List D):List Value:=es.flatMap qQN
def qEI(sz:Nat)(e:D):Prop:=∃ws:List Value,e.cells=ws.map D.leaf/\ws.length=sz/\∀w∈ws,wM w=true/\qH w=true
theorem qIw:∀ws:List Value,(ws.map D.leaf).flatMap zE0=ws
 | []=>rfl
 |w::r=>by rw[List.map_cons,List.flatMap_cons,qIw r];rfl
theorem qEI.lv{sz:Nat}{e:D}(h:qEI sz e):e.cells=(qQN e).map D.leaf/\(qQN e).length=sz/\∀w∈qQN e,wM w=true/\qH w=true:=by
 obtain⟨ws,x,b,y⟩:=h;have:qQN e=ws:=by unfold qQN;rw[x,qIw]
 rw[this];exact⟨x,b,y⟩
theorem qIv{sz:Nat}:∀{es:List D},(∀e∈es,qEI sz e)->es.flatMap D.cells=(qLE es).map D.leaf/\(qLE es).length=es.length*sz/\∀w∈qLE es,wM w=true/\qH w=true
 | [],_=>⟨rfl,by simp[qLE],λ_ h=>by cases h⟩
 |e::r,h=>by obtain⟨a1,a2,a3⟩:=(h e List.mem_cons_self).lv;obtain⟨j,i,c⟩:=qIv λx y=>h x (mC _ y);have b:qLE (e::r)=qQN e++qLE r:=rfl;grind
theorem qGF{g:zG}:∀{ws vs:List Value},DRs g (ws.map D.leaf) vs->vs=ws
 | [],vs,h=>by cases h;rfl
 |w::r,vs,h=>by
  cases h with
  |cons y x=>rw[y.leaf_inv.1,qGF x]
theorem qGG{g:zG}:∀{ws:List Value},(∀w∈ws,wM w=true)->DRs g (ws.map D.leaf) ws
 | [],_=>.nil
 |w::r,h=>.cons (.leaf (h w List.mem_cons_self)) (qGG λx y=>h x (mC _ y))
structure LstOK (E:Env) (Y:Lst) (el sz:Nat) (P:D->Bool) (F:List D->List D) (mx:Nat:=1000000000):Prop where
 ff:∃fn,E.funcs.get Y.f=some fn
 G:Y.G=s6 mx el sz P F
 flat:∀e,P e=true->qEI sz e
 mem:∀es,(∀e∈es,P e=true)->∀e∈F es,P e=true
 len:∀es,(∀e∈es,P e=true)->(F es).length<=es.length/\(Y.cut=false->(F es).length=es.length)
 no:∀{H:AH} {v:Value},(v=.slice none 0 0∨∃a,v=.slice (some a) 0 0)->jV E Y.f (v::Y.xv) H (bif Y.cut then v else .tuple #[]) H
 ok:∀{H:AH} {B rt:Nat} {cs:List Value} {es:List D},H.blocks.get B=some ⟨.cells cs el,rt,true⟩->take? cs (es.length*sz)=some (qLE es)->(∀e∈es,P e=true)->es.length<=mx->
  ∃(r:List Value) (H':AH),jV E Y.f (.slice (some ⟨B,0,none⟩) es.length zI::Y.xv) H (bif Y.cut then .slice (some ⟨B,0,none⟩) (F es).length zI else .tuple #[]) H'/\
   take? r ((F es).length*sz)=some (qLE (F es))/\H'.blocks.get B=some ⟨.cells r el,rt,true⟩/\(∀b,b≠B->H'.blocks.get b=H.blocks.get b)/\H'.next=H.next/\Nat.min (Nat.min H.low H.next) rt<=H'.low
structure GroOK (E:Env) (Y:Gro) (el sz bytes:Nat):Prop where
 ff:∃fn,E.funcs.get Y.f=some fn
 G:Y.G=zAk el sz bytes
 ok:∀{H:AH} {n:Nat},n*(bytes+sz+1)<=100000000->∃(v:Value) (H':AH),jV E Y.f [.slice none 0 0,goInt n] H v H'/\H.next<=H'.next/\(∀b,b<H.next->H'.blocks.get b=H.blocks.get b)/\(WF H->WF H')/\Nat.min H.low H.next<=H'.low/\
  ((n=0/\v=.slice none 0 0)∨(n≠0/\∃(B rt:Nat) (cs:List Value),H.next<=B/\H.next<=rt/\v=.slice (some ⟨B,0,none⟩) 0 zI/\H'.blocks.get B=some ⟨.cells cs el,rt,true⟩))
section
variable{E:Env}{n0:Lim}{H0:AH}{g0:zG}{S:St}{ρ:List D}{ve:Nat->Value}{lb:Nat->Nat}{g:zG}{fr:Fr}{H:AH}{Q:Res1->Prop}{HS:FuncId->List D->D->Prop}{Y:Lst}{el sz:Nat}{P:D->Bool}{F:List D->List D}{mx:Nat}
theorem qK8{i:Nat}{d:D}{H':AH}(k:i<S.n)(c:SR E n0 H0 g0 ((S.kill i).new .fresh true) (ρ++[d]) (mN ve S.n (ve i)) lb g fr H'):SR E n0 H0 g0 (S.setted i) (ρ++[d]) (mN ve S.n (ve i)) lb g fr H':=by refine {c with slots:=?_};intro b y j;have h:(S.slots.map (SV.ren i S.n)).get b=some y:=j;rw[Go.Am.T.get_map]at h;simp only[Option.map_eq_some_iff]at h;obtain⟨e,x,rfl⟩:=h;obtain⟨p1,p2⟩:=c.slots b e x;refine⟨qWf p1 (by show S.n<((S.kill i).new .fresh true).n;rw[xW,oD];omega),?_⟩;rw[qRq (by rw[jA,iG k])];exact p2
theorem qWO(I:LstOK E Y el sz P F mx)(h:SR E n0 H0 g0 S ρ ve lb g fr H){o:Oper}{κ:K1}{i:Nat}(ha:v9 E fr o H=some (.enter Y.f (ve i::Y.xv),H))(C:wp E HS Q (qWP Y i S κ) ρ):mI E HS Q n0 H0 g0 fr H o κ:=by
 unfold qWP at C;obtain⟨J,z⟩:=jC C;simp only[wp]at z;split at z;case h_2=>cases z
 rename_i d hd;rw[qIV,I.G]at hd;simp only[SV.ds]at hd;obtain⟨of,hst⟩:=zL.1 J;have hi:i<S.n:=tF J;have hv:=(h.vars i _ hst).2
 have fin:∀{H':AH} {d:D} {v:Value},(Y.cut=false->v=ve i)->rA g H'.blocks.get n0 d v->d.one=true->SR E n0 H0 g0 (S.kill i) ρ ve lb g fr H'->(∀B,jB v=some B->jB (ve i)=some B)->
   jV E Y.f (ve i::Y.xv) H (bif Y.cut then v else .tuple #[]) H'->H.next<=H'.next->wp E HS Q (bif Y.cut then κ (.v S.n) ((S.kill i).new .fresh true)else κ (.tup []) (S.setted i)) (ρ++[d])->mI E HS Q n0 H0 g0 fr H o κ:=by
  intro H' d v M hfr U k2 x p V C
  have O:=k2.newFresh (d:=d) (v:=v) hfr U (λB N=>h.sepFG i B J (x B N)) (λB c N A e=>h.sepX c i A J (by rw[e];exact x B N))
   (λB jj N hf L=>by obtain⟨a1,a2⟩:=jF hf;exact a2 (h.sepF jj i B a1 J L (x B N)))
  rw[oD]at O
  cases t:Y.cut with
  | true=>
   rw[t]at C p
   refine⟨.v S.n,_,_,_,_,_,_,O.raise,?_,C,?_⟩
   ·show S.n<_
    rw[xW,oD];omega
   have:(SV.v S.n).val (mN ve S.n v) lb=v:=by simp only[SV.val,jA]
   rw[this]
   exact .of_call ha p.raise (Nat.lt_succ_of_le V)
  |false=>
   have M:=M t
   subst M
   rw[t]at C p
   have k4:=qK8 hi O
   exact⟨.tup [],_,_,_,_,_,_,k4.raise,trivial,C,.of_call ha p.raise (Nat.lt_succ_of_le V)⟩
 rcases hv with qn|⟨B,l,cs,vs,vK,rt,sz2,y,j⟩|⟨B,y,ck,rt,ks,dd,j⟩
 rotate_left 2
 ·have K:getD ρ i=.mp ks dd:=j.d;simp only[SV.d,K,s6]at hd;cases hd
 ·
  -- no R
  have hno:ve i=.slice none 0 0∨∃a,ve i=.slice (some a) 0 0:=by rcases qn with⟨h1,_⟩|⟨_,h1⟩;all_goals grind
  have hdd:d=getD ρ i:=by
   rcases qn.sl with hz|⟨_,_,hz⟩
   ·simp only[SV.d,hz,s6]at hd;grind
   simp only[SV.d,hz,s6]at hd;obtain⟨A,hd⟩:=qX hd;simp only[zR]at A;have e1:=vP A.1.1.1;have e2:=vP A.1.1.2;have e3:F []=[]:=List.length_eq_zero_iff.1 (Nat.le_zero.1 (I.len [] (λ_ q=>by cases q)).1);grind
  subst hdd;exact fin (λ_=>rfl) (.inl qn) qn.one (h.killed i) (λB N=>N) (I.no hno) (vE _) z
 have K:getD ρ i=.sl vK sz2 y:=j.d;simp only[SV.d,K,s6]at hd;obtain⟨A,hd2⟩:=qX hd;clear hd;simp only[zR,List.all_eq_true]at A;have e1:=(vP A.1.1.1).symm;have e2:=(vP A.1.1.2).symm;have W:=A.1.2;have hbd:=oK A.2;subst e1 e2;have hd:=Option.some.inj hd2;have x:jB (ve i)=some B:=by rw[j.v];simp[jB]
 obtain⟨c1,c2,c4⟩:=qIv (sz:=sz) (es:=y) λe he=>I.flat e (W e he);have G:=j.r;rw[c1]at G;have G:=qGF G;have ht:=j.t;rw[G,←j.n]at ht;obtain⟨r,H',k1,k2,O,k4,k5,k6⟩:=I.ok j.b ht W hbd;have X:∀e∈F y,qEI sz e:=λe he=>I.flat e (I.mem y W e he);obtain⟨f1,f2,f3⟩:=qIv X;have hwf:WF H':=λb k u=>by
  rw[k5];by_cases e:b=B
  ·subst e;rw[O]at u;cases u;exact⟨(h.wf b _ j.b).1,(h.wf b _ j.b).2⟩
  rw[k4 b e]at u;exact h.wf b k u
 have g2:=(h.killed i).heap2 (H':=H') (λb=>b=B) (λb _ u=>k4 b u) (λb u=>by subst u;exact h.sepFG i b J x) (λb c u hl e=>by subst u;exact h.sepX c i hl J (by rw[e];exact x)) (λb jj u hf L=>by subst u;obtain⟨a1,a2⟩:=jF hf;exact a2 (h.sepF jj i b a1 J L x)) (λb u=>by subst u;exact j.rt.2) hwf (Nat.le_of_eq k5.symm) (lT (Nat.le_min.2 ⟨Nat.le_min.2 ⟨h.low,lT (Nat.min_le_right _ _) h.base.1⟩,lT (Nat.min_le_right _ _) j.rt.1⟩) k6);have hx:=j.x;have hn:=j.n;have hle:=(I.len y W).1;rw[j.v]at x;refine fin (H':=H') (v:=.slice (some ⟨B,0,none⟩) (F y).length zI) (λt=>?_) ?_ ?_ g2 (λB' Z=>?_) ?_ (Nat.le_of_eq k5.symm) z
 ·rw[j.v,(I.len y W).2 t,hn]
 ·rw[←hd];refine .inr (.inl ⟨B,_,r,qLE (F y),el,rt,sz,F y,rfl,rfl,O,j.rt,k2,?_,rfl,λe he=>?_,by omega,?_⟩)
  ·rw[f1];exact qGG λw C=>(f3 w C).1
  ·obtain⟨q1,q2,_⟩:=(X e he).lv;rw[q1,List.length_map,q2]
  grind
 ·rw[←hd];rfl
 ·rw[j.v];simp only[jB,vE,if_true,oI]at Z ⊢;exact Z
 rw[j.v,←hn];exact k1
theorem qW5{Y:Gro}{bytes:Nat}(M:GroOK E Y el sz bytes)(h:SR E n0 H0 g0 S ρ ve lb g fr H){o:Oper}{κ:K1}{x:SV}(L:v9 E fr o H=some (.enter Y.f [.slice none 0 0,x.val ve lb],H))(J:wp E HS Q (qW6 Y x S κ) ρ):mI E HS Q n0 H0 g0 fr H o κ:=by
 unfold qW6 at J;obtain⟨c3,b⟩:=jC J;have K:=zH h.toSM c3;simp only[wp]at b;split at b;case h_2=>cases b
 rename_i d hd;rw[qIV,M.G]at hd;simp only[SV.ds]at hd;generalize x.d (getD ρ)=dx at hd K;unfold zAk at hd;split at hd;case h_2=>cases hd
 rename_i n A;cases A;obtain⟨G,C⟩:=qX hd;clear hd;have hd:=Option.some.inj C;have w:n*(bytes+sz+1)<=100000000:=oK G;have hv:=(K.dr rfl).leaf_inv.1;rw[hv]at L;obtain⟨v,H',W,I,V,U,R,O⟩:=M.ok (H:=H) w;have g2:=h.heap (H':=H') V (U h.wf) I (lT (Nat.le_min.2 ⟨h.low,lT (Nat.min_le_right _ _) h.base.1⟩) R);have r:rA g H'.blocks.get n0 d v->d.one=true->(∀B,jB v=some B->H.next<=B)->mI E HS Q n0 H0 g0 fr H o κ:=by
  intro z l y;have N:=g2.newFresh (d:=d) (v:=v) z l (λB j=>by
    cases hg:g B with
    |none=>rfl
    |some k=>have:=qPn h.toSM hg;have:=y B j;omega)
   (λB c j G e=>by have:=(xQ h.toSM G).1;have:=y B j;omega)
   (λB i j Z t=>by have:=(oA h.toSM Z t).1;have:=y B j;omega)
  refine⟨.v S.n,_,_,_,_,_,_,N.raise,?_,b,?_⟩
  ·show S.n<_;rw[xW];omega
  have:(SV.v S.n).val (mN ve S.n v) lb=v:=by simp only[SV.val,jA]
  rw[this];exact .of_call L W.raise (Nat.lt_succ_of_le I)
 rcases O with⟨rfl,rfl⟩|⟨h0,B,rt,cs,b1,b2,rfl,b3⟩
 ·have hd:d=.nil:=hd.symm;subst hd;exact r (.inl (.inl ⟨rfl,rfl⟩)) rfl (λB j=>by cases j)
 have u:Nat.beq n 0=false:=by
  cases e:Nat.beq n 0 with
  |false=>rfl
  |true=>exact absurd (vP e) h0
 rw[u]at hd;have hd:d=.sl el sz []:=hd.symm;subst hd;refine r (.inr (.inl ⟨B,0,cs,[],el,rt,sz,[],rfl,rfl,b3,⟨lT h.base.1 b2,λX=>by have:=h.base.2 B X;omega⟩,by rw[Nat.zero_mul,take?],.nil,rfl,(λ_ q=>by cases q),by unfold zI;omega,rfl⟩)) rfl (λB' p=>?_);simp only[jB,vE,if_true,oI]at p;subst p;exact b1
theorem qPw{Ls:List Lst}{g:FuncId}{xs:List SV}(h:qKn Ls g xs=some Y):Y∈Ls/\Y.f=g/\SV.vals ve lb xs=Y.xv:=by
 induction Ls with
 |nil=>cases h
 | cons Z r b=>
  unfold qKn at h;cases x:Nat.beq Z.f g&&qW1 Z.ex xs with
  |false=>grind
  |true=>
   rw[x]at h;cases h;simp only[zR]at x;refine⟨List.mem_cons_self,vP x.1,?_⟩;have y:=x.2;unfold qW1 at y;unfold Lst.xv;split at y
   ·rename_i e;rw[e];rfl
   ·rename_i e;rw[e,vP y];rfl
   cases y
theorem qPx{Gs:List Gro}{g:FuncId}{Y:Gro}(h:qKo Gs g=some Y):Y∈Gs/\Y.f=g:=by
 induction Gs with
 |nil=>cases h
 |cons Z r x=>
  unfold qKo at h;cases y:Nat.beq Z.f g with
  |false=>grind
  |true=>simp_all
def qX5(E:Env)(Ls:List Lst)(Gs:List Gro):Prop:=(∀Y∈Ls,∃el sz P F mx,LstOK E Y el sz P F mx)/\∀Y∈Gs,∃el sz bytes,GroOK E Y el sz bytes
theorem qWs{Ls:List Lst}{Gs:List Gro}(hL:qX5 E Ls Gs){o:Oper}{κ:K1}(h:SR E n0 H0 g0 S ρ ve lb g fr H)(e:wp E (Holds E) Q (qUP E Ls Gs o S κ) ρ):mI E (Holds E) Q n0 H0 g0 fr H o κ:=by
 have y:wp E (Holds E) Q (vZ E o S κ) ρ->mI E (Holds E) Q n0 H0 g0 fr H o κ:=λe=>(eU h e).toR;unfold qUP at e;split at e
 ·rename_i c J;split at e;case h_2=>exact y e
  rename_i f q l k;obtain⟨M,K⟩:=rL (E:=E) h k;split at e;case h_2=>exact y e
  rename_i C w;obtain⟨L,G⟩:=zQ (E:=E) h w;simp only[SV.val]at G;have enter:(∃fn,E.funcs.get C=some fn)->v9 E fr o H=some (.enter C (SV.vals ve lb q),H):=by intro⟨fn,z⟩;unfold v9;rw[J];simp only[kD,K,l,G,pK,z,SV.vals,List.append_nil,List.nil_append]
  split at e;case h_2=>exact y e
  rename_i t j;unfold qZZ at j;split at j
  ·rename_i i xs;split at j;case h_2=>cases j
   rename_i Y A;cases j;obtain⟨u,r,I⟩:=qPw (ve:=ve) (lb:=lb) A;obtain⟨el,sz,P,F,mx,p⟩:=hL.1 Y u;subst r;have b:=enter p.ff;simp only[SV.vals,SV.val,I]at b;exact qWO p h b e
  ·rename_i x;split at j;case h_2=>cases j
   rename_i Y A;cases j;obtain⟨u,r⟩:=qPx A;obtain⟨el,sz,bytes,p⟩:=hL.2 Y u;subst r;have b:=enter p.ff;simp only[SV.vals,SV.val]at b;exact qW5 p h b e
  cases j
 exact y e
theorem qLR(he:EOk E){Ls:List Lst}{Gs:List Gro}(hL:qX5 E Ls Gs){f:FuncId}{fn:Func}{c:Code}(Z:E.funcs.get f=some fn)(y:fn.body=some c){pats:Nat->Pat}{szs:Nat->Nat}{t:Nat->Tree}{ds:List D}{d:D}{n:Nat}(hn:ds.length=n)(h0:qAY E (λk S=>jI (szs k) (pats k) k S) (qUP E Ls Gs) qAZ 1 c (yL n (Nat.max fn.ntmps n)) (mK E fn.results.toList)=t 0)(hT:∀x∈j5 E (λk=>(pats k).st (szs k)) (λk S=>jI (szs k) (pats k) k S) (qUP E Ls Gs) qAZ (λ_ _ _ _=>[]) 1 c (mK E fn.results.toList),t x.1=x.2)(j:qE E (Holds E) t 0 ds d)(i:f<cQ:=by decide):Holds E f ds d:=by
 refine .inl ⟨i,⟨fn,Z⟩,λH g I u X z hd=>?_⟩;have p:I.length=n:=by rw[hd.length,hn]
 have hs:=qBE (sz:=Nat.max fn.ntmps n) u X z hd p;obtain⟨m,j⟩:=j;cases m with
 |zero=>cases j
 | succ m=>
  have q:wp E (Holds E) (Qf E t d m) (t 0) ds:=j;rw[←h0]at q;have hO:qMv E (Lim.of H.next) H g (Qf E t d) (qUP E Ls Gs):=λm o S ρ ve lb g fr H κ h w=>qWs hL h w;have hR:fT E (Lim.of H.next) H g (Qf E t d) (λk S=>jI (szs k) (pats k) k S) (qUP E Ls Gs) qAZ 1 c (mK E fn.results.toList):=λ_ _ _ _ _ _ _ _ _ _ _ _ _ _ _ _ w=>by cases w
  have hj:=fH (n0:=Lim.of H.next) (H0:=H) (g0:=g) (d:=d) he hO hR rfl hT (λk κ b hp=>Nat.zero_le _) m;obtain⟨e,V,H1,W,m1,_,S1,J,K,L,g1,h1,w⟩:=nF he hO hR hj c 1 _ .root m (vE _) _ _ _ _ _ _ _ hs q;obtain⟨O,v,g',hv,R,A,l,M,hk,C,G⟩:=qFC (d:=d) (λd' U=>U) e S1 J K L g1 V H1 h1 w;rw[←p]at W;have r:=vC.call he Z y W O hv;let g2:zG:=λb=>if b<H.next then g b else g' b;have N:zG.le g' g2:=by
   intro b k y;simp only[g2];split
   ·rename_i i;rw[←G b i];exact y
   exact y
  refine⟨v,{H1 with next:=H1.next+1},g2,r.raise,Nat.lt_succ_of_le M,λb k y=>⟨(l b k y).1,Nat.lt_succ_of_lt (l b k y).2⟩,hk,C,?_,?_,?_,R.mono N⟩
  ·intro b k y;simp only[g2];rw[if_pos (u b k (X b k y)).2];exact y
  ·intro b k y;simp only[g2]at y;split at y
   ·rename_i i;rw[←G b i]at y;exact A b k y
   exact A b k y
  intro b y;simp only[g2];rw[if_pos y]
end
end Go.Am
