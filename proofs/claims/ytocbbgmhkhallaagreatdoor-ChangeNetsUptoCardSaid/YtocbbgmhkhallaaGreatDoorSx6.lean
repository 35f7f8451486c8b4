/- Loops over functions in symbolic runs: the iterator's code runs in place, and so do the rounds and small callees. Conditions: none. -/
import Derived.Test.YtocbbgmhkhallaaGreatDoorSx4
set_option linter.unusedVariables false
set_option linter.unusedSimpArgs false
namespace Go.Am
open Go
def lV(t:T SV):Nat->List (Nat×SV)
 |0=>[]
 |n+1=>match t.get n with
  |some x=>(n,x)::lV t n
  |none=>lV t n
def qRw(l:List (Nat×SV)):T SV:=l.foldl (λt (p:Nat×SV)=>t.put p.1 (some p.2)) .leaf
def qEv:LS->SV
 | [x]=>x
 |l=>.gd l
def qWx:Nat->St->Tree:=λ_ _=>.fail
abbrev qMY:=Oper->St->K1->Tree
def qLT(OP:qMY)(all:LF):LB->St->(St->Tree)->Tree
 | [],S,κ=>κ S
 | o::h,S,κ=>
  qCN all o S
   (λS=>OP o S λy S=>match S.put o.dst y with
    |some S=>qLT OP all h S κ
    |none=>.fail)
   (λS=>match S.put o.dst (.gd [])with
    |some S=>qLT OP all h S κ
    |none=>.fail)
abbrev qQJ:=Operand->Array Tmp->Code->Code->St->KC->Tree
def qI2:qQJ:=λ_ _ _ _ _ _=>.fail
def qDQ(E:Env)(J:Nat->St->Tree)(OP:qMY)(RG:qQJ):Nat->Code->St->KC->Tree
 |at_,.seq a b,S,κ=>qDQ E J OP RG at_ a S (qLG (λS=>qDQ E J OP RG (at_+nl a) b S κ) κ)
 |at_,.cond c a b,S,κ=>match nA S c with
  |some (.c (.bool true))=>qDQ E J OP RG at_ a S κ
  |some (.c (.bool false))=>qDQ E J OP RG (at_+nl a) b S κ
  |some (.v i)=>bif S.lh i then .ite (.v i) (qDQ E J OP RG at_ a (S.known i true) κ) (qDQ E J OP RG (at_+nl a) b (S.known i false) κ)else .fail
  |_=>.fail
 |at_,.block id b,S,κ=>qDQ E J OP RG at_ b S (dE id κ)
 |at_,.loop _,S,_=>J at_ S
 |at_,.scope b,S,κ=>qDQ E J OP RG at_ b S κ
 |_,.region id ops draw,S,κ=>bif draw then sx E qWx 1 (.region id ops draw) S κ else qLT OP ops ops.toList S (κ .normal)
 |_,.rangeFunc f ps a b,S,κ=>RG f ps a b S κ
 |_,.skip,S,κ=>κ .normal S
 |_,.label _,S,κ=>κ .normal S
 |_,.ret,S,κ=>κ .ret S
 |_,.exit id,S,κ=>κ (.exit id) S
 |_,_,_,_=>.fail
abbrev qIv:=List (FuncId×Func×Code)
def qA5:qIv->LO->Option (Func×Code)
 | [],_=>none
 |(f,fn,c)::r,g=>bif Nat.beq f g then some (fn,c)else qA5 r g
def qYD(E:Env)(I:qIv):qMY:=λo S κ=>match o.op with
 | .makeFunc (.func g) first cap=>match qA5 I g with
  |some _=>match dS S first.toList,dS S cap.toList with
   |some a,some b=>κ (.fn (.func g) a b) S
   |_,_=>.fail
  |none=>jM E o S κ
 |_=>jM E o S κ
def zB2(E:Env)(I:qIv):Code->St->KC->Tree:=qDQ E qWx (qYD E I) qI2 1
def qGY(E:Env)(κ:LS->St->Tree)(S:St)(acc:LS):List ResultVar->Tree
 | []=>κ acc S
 |.tmp t::r=>match S.af.get t with
  |some x=>qGY E κ S (acc++[x]) r
  |none=>.fail
 |.cell a t::r=>match S.af.get a with
  |some p=>qEA E t p S λx S=>qGY E κ S (acc++[x]) r
  |none=>.fail
def qE4(sz:Nat)(κ:K1)(xs:LS)(S:St):Tree:=match S.kh with
 |l::r=>κ (qEv xs) {S with af:=qRw l,sz:=sz,kh:=r}
 | []=>.fail
def zDE(E:Env)(h:List ResultVar)(sz:Nat)(κ:K1):KC:=λe S=>match e with
 |.normal=>qGY E (qE4 sz κ) S [] h
 |.ret=>qGY E (qE4 sz κ) S [] h
 |.exit _=>.fail
def qXl(E:Env)(I:qIv)(fn:Func)(c:Code)(args:LS)(S:St)(κ:K1):Tree:=
 zB2 E I c {S with af:=T.ofList .leaf 0 args,sz:=Nat.max fn.ntmps args.length,kh:=lV S.af S.sz::S.kh} (zDE E fn.results.toList S.sz κ)
def qDw(sz:Nat):T SV->List Tmp->LS->Option (T SV)
 |t,[],[]=>some t
 |t,p::ps,x::xs=>bif Nat.ble (p+1) sz then qDw sz (t.put p (some x)) ps xs else none
 |_,_,_=>none
structure Site where
 ps:List Tmp
 a:Code
 b:Code
 sz:Nat
 L:Nat
def qLS:AExit->Nat
 |.normal=>0
 |.ret=>1
 |.exit n=>n+2
def qBG:Option (Option Blk)->Bool
 |some (some (.loop 0 0))=>true
 |_=>false
def qJe:Option (Option Blk)->Bool
 |some (some (.loop 1 0))=>true
 |_=>false
def qVj(Y:Site)(sz:Nat)(κ:K1):KC:=λe S=>
 bif qJe S.ae[Y.L]? then qE4 sz κ [.c (.bool (Nat.beq (qLS e) 0))] (S.kj Y.L (.loop (bif Nat.beq (qLS e) 0 then 0 else 2) (qLS e)))else .fail
def qU8(E:Env)(I:qIv)(Y:Site)(sz:Nat)(κ:K1):KC:=λe S=>match e with
 |.normal=>bif qBG S.ae[Y.L]? then zB2 E I Y.b (S.kj Y.L (.loop 1 0)) (qVj Y sz κ)else .fail
 |_=>.fail
def qIO(E:Env)(I:qIv)(Y:Site)(args:LS)(S:St)(κ:K1):Tree:=
 bif qBG S.ae[Y.L]? then
  match S.kh with
  |l::r=>match qDw Y.sz (qRw l) Y.ps args with
   |some sl=>zB2 E I Y.a {S with af:=sl,sz:=Y.sz,kh:=lV S.af S.sz::l::r} (qU8 E I Y S.sz κ)
   |none=>.fail
  | []=>.fail
 else .fail
def qKu(E:Env)(I:qIv)(Y:Option Site):qMY:=λo S κ=>match o.op with
 | .call c=>match c.callee,dS S c.args.toList with
  | .value f,some args=>match nA S f with
   |some (.lk L)=>match Y with
    |some Y=>bif Nat.beq L Y.L&&Nat.beq Y.ps.length args.length then qIO E I Y args S κ else .fail
    |none=>.fail
   |some (.fn (.func g) first cap)=>match qA5 I g with
    |some (fn,h)=>qXl E I fn h (first++args++cap) S κ
    |none=>jM E o S κ
   |_=>jM E o S κ
  |_,_=>jM E o S κ
 |_=>qYD E I o S κ
def qAD:Nat->AExit
 |0=>.normal
 |1=>.ret
 |n+2=>.exit n
def qRj:Option (Option Blk)->Option (Nat×Nat)
 |some (some (.loop st pd))=>some (st,pd)
 |_=>none
def noIts(l:List (Option Blk)):List (Option Blk):=l.map λb=>match b with
 |some (.b5 _ _)=>none
 |x=>x
def qK6(Y:Site)(κ:KC):KC:=λe S=>match e with
 |.exit _=>.fail
 |_=>match S.kh,qRj S.ae[Y.L]? with
  |l::r,some (st,pd)=>bif Nat.beq st 1 then .fail else bif (noIts (S.ae.set Y.L none)).all fT then κ (qAD pd) {S with af:=qRw l,sz:=Y.sz,kh:=r,ae:=noIts (S.ae.set Y.L none)}else .fail
  |_,_=>.fail
def aN(E:Env)(J:Nat->St->Tree)(I:qIv)(G:LO)(sz L at0:Nat):qQJ:=λf ps a b S κ=>
 match nA S f,qA5 I G with
 |some (.fn (.func g) first cap),some (fn,h)=>
  bif Nat.beq g G&&Nat.beq S.ae.length L&&Nat.beq S.sz sz&&S.ae.all fT&&fn.results.toList.isEmpty then qDQ E J (qKu E I (some ⟨ps.toList,a,b,sz,L⟩)) qI2 at0 h {S with af:=T.ofList .leaf 0 (first++[SV.lk L]++cap),sz:=Nat.max fn.ntmps (first++[SV.lk L]++cap).length,kh:=lV S.af S.sz::S.kh,ae:=S.ae++[some (.loop 0 0)]} (qK6 ⟨ps.toList,a,b,sz,L⟩ κ)
  else .fail
 |_,_=>.fail
def wE(E:Env)(P:Nat->St)(J:Nat->St->Tree)(OP:qMY)(RG:qQJ)(RH:Array Tmp->Code->Code->KC->LW):Nat->Code->KC->LW
 |at_,.seq a b,κ=>wE E P J OP RG RH at_ a (qLG (λS=>qDQ E J OP RG (at_+nl a) b S κ) κ)++wE E P J OP RG RH (at_+nl a) b κ
 |at_,.cond _ a b,κ=>wE E P J OP RG RH at_ a κ++wE E P J OP RG RH (at_+nl a) b κ
 |at_,.block id b,κ=>wE E P J OP RG RH at_ b (dE id κ)
 |at_,.loop b,κ=>(at_,qDQ E J OP RG (at_+1) b (P at_) (iV J at_ κ))::wE E P J OP RG RH (at_+1) b (iV J at_ κ)
 |at_,.scope b,κ=>wE E P J OP RG RH at_ b κ
 |_,.rangeFunc _ ps a b,κ=>RH ps a b κ
 |_,_,_=>[]
def qIR(E:Env)(P:Nat->St)(J:Nat->St->Tree)(I:qIv)(h:Code)(sz L at0:Nat):Array Tmp->Code->Code->KC->LW:=λps a b κ=>
 wE E P J (qKu E I (some ⟨ps.toList,a,b,sz,L⟩)) qI2 (λ_ _ _ _=>[]) at0 h (qK6 ⟨ps.toList,a,b,sz,L⟩ κ)
theorem qAp{t:T SV}:∀{n u:Nat} {x:SV},(u,x)∈lV t n->t.get u=some x
 |0,_,_,h=>by cases h
 | n+1,u,x,h=>by
  simp only[lV]at h;split at h
  ·rename_i y b;rcases bl.1 h with e|h
   ·cases e;exact b
   exact qAp h
  exact qAp h
theorem qFS{l:List (Nat×SV)}{t:Nat}{x:SV}(h:(qRw l).get t=some x):(t,x)∈l:=by
 rcases qCS l .leaf h with h|h
 ·exact h
 cases h
variable{E:Env}{args:LA}{l:Nat}{v:LQ}
theorem yF.raise{H H':AH}(h:yF E l args H v H'):yF E l args H v {H' with next:=H'.next+1}:=by
 intro σ w e L lo q hv t p j r c cs;obtain⟨i,w',v',B,s,A⟩:=h σ w e L lo q hv (λb z u=>t b z (dp u)) p j r c cs;have st:Step E σ H w i {H' with next:=H'.next+1} w':=by
  refine⟨⟨s.hr.kq,s.hr.sep,s.hr.la,λb k y=>?_⟩,jb s.next,λb y=>?_,s.size,s.low,s.tape,s.os,s.output,s.frame,s.origin,s.kp,s.hN,s.born⟩
  ·exact⟨(s.hr.wf b k y).1,dp (s.hr.wf b k y).2⟩
  refine s.ext b ?_;rcases y with y|y
  ·exact .inl y
  exact .inr (Nat.le_of_succ_le y)
 exact⟨i,w',v',B,st,A⟩
variable{o:Oper}
theorem lC.qk{fr:Fr}{H H':AH}(h:jH E fr o H=some (.round l args,H))(e:yF E l args H v H')(y:H.next<H'.next):lC E fr o H v H':=by
 refine⟨gx y,[{f:=l,args:=args,H:=H,v:=v,H':=H',sc:=true}],⟨⟨y,e⟩,vP _,trivial⟩,λa h=>?_,λih b=>?_⟩
 ·simp only[aw]at h;subst h;exact vP _
 have:=b _ (aw.2 rfl);simp only[jX.cmd]at this;simp only[jA,h];rw[this]
variable{c:Code}{κ:K1}
section
variable{E:Env}{n0:Lim}{H0:AH}{g0:zR}{S:St}{ρ:LR}{ve:LH}{lb:LI}{g:zR}{fr:Fr}{H:AH}{Q:Res1->Prop}{HS:LO->LR->La}
theorem SR.qa(h:SR E n0 H0 g0 S ρ ve lb g fr H){n1:Lim}(W:n1.n=n0.n)(V:n1.K=n0.K)(U:n1.F.length<=S.ae.length/\∀k a,n1.F[k]? = some a->lb k=a)(j:(n1.lr=n0.lr/\n1.ph=n0.ph/\n1.pn=n0.pn/\n1.pk=n0.pk)∨∀(b:Nat) (x:Blk),S.ae[b]? = some (some x)->x.od=false){S':St}(s1:S'.db=S.db)(A:S'.ae=S.ae){y:Fr}(f1:y.sz=S'.sz)(f2:y.rd=n1.rd)(f3:∀t x,S'.af.get t=some x->x.bd S.n S.ae.length/\y.t.get t=some (x.val ve lb))(R:dP n1.da S'.kh S.n S.ae.length ve lb):SR E n1 H0 g0 S' ρ ve lb g y H:=by
 obtain⟨n,K,F,da,rd,lr,ph,pn,pk⟩:=n1;obtain⟨n',K',F',P,rd',L,C,N,M⟩:=n0;simp only at W V U j f2 R;subst W V;obtain⟨Z,af,ae,sz,kh⟩:=S;obtain⟨w,p,u,X,z⟩:=S';simp only at s1 A;subst s1 A;refine {len:=h.len,wf:=h.wf,mem:=h.mem,base:=h.base,fix:=U,vars:=?_,ae:=?_,ei:=h.ei,cn:=h.cn,km:=h.km,h7:=h.h7,hU:=h.hU,sz:=f1,rd:=f2,af:=f3,kh:=R,hN:=h.hN,gk:=h.gk,low:=h.low,tab:=h.tab}
 ·intro i s hs;have:=h.vars i s hs;obtain⟨k,oo⟩:=s;refine⟨this.1,?_⟩;have O:=this.2;cases k<;>try exact O
  rcases O with q|⟨B,l,cs,vs,el,rt,sz,es,q⟩|⟨B,es,ck,rt,ks,dd,q⟩
  ·exact .inl q
  ·exact .inr (.inl ⟨B,l,cs,vs,el,rt,sz,es,{q with rt:=q.rt}⟩)
  exact .inr (.inr ⟨B,es,ck,rt,ks,dd,{q with rt:=q.rt}⟩)
 intro b x r;obtain⟨q1,e⟩:=h.ae b x r;refine⟨q1,?_⟩;rcases j with⟨rfl,rfl,rfl,rfl⟩|j
 ·cases x with
  |loop st pd=>exact e
  |b5 _ _=>exact e
  |cells _=>exact e
  |whole _ _=>exact e
 obtain⟨el,rt,cs,r1,r2,r3⟩:=e.cells (j b x r);exact .ml (j b x r) ⟨el,rt,cs,r1,r2,r3⟩
theorem SR.raise(h:SR E n0 H0 g0 S ρ ve lb g fr H):SR E n0 H0 g0 S ρ ve lb g fr {H with next:=H.next+1}:=
 h.heap (H':={H with next:=H.next+1}) (λ_ _=>rfl) (λb k y=>⟨(h.wf b k y).1,dp (h.wf b k y).2⟩) (cx _) h.low
theorem dP.push(h:SR E n0 H0 g0 S ρ ve lb g fr H):dP (fr::n0.da) (lV S.af S.sz::S.kh) S.n S.ae.length ve lb:=by
 intro j l e t x i;cases j with
 |zero=>simp only[dq,oI]at e;subst e;obtain⟨b,y⟩:=h.af t x (qAp i);exact⟨b,fr,rfl,y⟩
 |succ j=>obtain⟨b,f,y,k⟩:=h.kh j l (by simpa using e) t x i;exact⟨b,f,by simpa using y,k⟩
def Kq(E:Env)(n0:Lim)(H0:AH)(g0:zR)(Q:Res1->Prop)(κ:KC):pE:=λe fr H=>∃S ρ ve lb g,SR E n0 H0 g0 S ρ ve lb g fr H/\wp E (qA E) Q (κ e S) ρ
theorem qVR(he:EOk E){κ:KC}(h:SR E n0 H0 g0 S ρ ve lb g fr H)(y:wp E (qA E) Q (sx E qWx 1 c S κ) ρ):Fin E c (Kq E n0 H0 g0 Q κ) fr H:=by refine d9 (c0:=c) (κ0:=κ) (K0:=Kq E n0 H0 g0 Q κ) (J:=qWx) he (λk b κ K i S ρ ve lb g fr H h y=>by cases y) c 1 κ (Kq E n0 H0 g0 Q κ) .root ?_ S ρ ve lb g fr H h y;intro e S ρ ve lb g fr H h y;exact⟨S,ρ,ve,lb,g,h,y⟩
def uV(E:Env)(HS:LO->LR->La)(Q:Res1->Prop)(n0:Lim)(H0:AH)(g0:zR)(fr:Fr)(H:AH)(o:Oper)(κ:K1):Prop:=
 ∃y S' ρ' h b g' H',SR E n0 H0 g0 S' ρ' h b g' fr H'/\y.bd S'.n S'.ae.length/\wp E HS Q (κ y S') ρ'/\lC E fr o H (y.val h b) H'
theorem j7.toR{i:Bool}(h:j7 i E HS Q n0 H0 g0 fr H o κ):uV E HS Q n0 H0 g0 fr H o κ:=by obtain⟨y,S',ρ',b,e,g',H',p,k,h3,j,_⟩:=h;exact⟨y,S',ρ',b,e,g',H',p,k,h3,j⟩
theorem qFB{κ:LS->St->Tree}:∀(j:List ResultVar) (acc:LS) {S:St} {ρ:LR} {ve:LH} {lb:LI} {g:zR} {fr:Fr} {H:AH},SR E n0 H0 g0 S ρ ve lb g fr H->SV.kx S.n S.ae.length acc->wp E HS Q (qGY E κ S acc j) ρ->
  ∃S' ρ' b g' vs xs,SR E n0 H0 g0 S' ρ' b lb g' fr H/\vV E fr H j=some vs/\SV.kx S'.n S'.ae.length xs/\SV.a8 b lb xs=SV.a8 ve lb acc++vs/\wp E HS Q (κ xs S') ρ'
 | [],acc,S,ρ,ve,lb,g,fr,H,h,i,e=>⟨S,ρ,ve,g,[],acc,h,rfl,i,by rw[cr],e⟩
 | .tmp t::j,acc,S,ρ,ve,lb,g,fr,H,h,i,e=>by
  simp only[qGY]at e
  split at e
  ·rename_i x N
   obtain⟨F,C⟩:=h.af t x N
   obtain⟨S',ρ',b,g',vs,xs,B,A,z,k,w⟩:=qFB j (acc++[x]) h (by
    rw[SV.hE]at i ⊢
    intro u hu
    rcases bh.1 hu with hu|hu
    ·exact i u hu
    simp only[aw]at hu;subst hu;exact F) e
   refine⟨S',ρ',b,g',x.val ve lb::vs,xs,B,by simp only[vV,C,A,aj],z,?_,w⟩
   rw[kL]at k
   simpa[SV.a8]using k
  cases e
 | .cell a t::j,acc,S,ρ,ve,lb,g,fr,H,h,i,e=>by
  simp only[qGY]at e
  split at e
  ·rename_i p O
   obtain⟨F,C⟩:=h.af a p O
   obtain⟨y,U,M,q,R,L,P,K,s1,s2⟩:=qBB h F e
   obtain⟨S',ρ',b,g',vs,xs,B,A,z,k,w⟩:=qFB j (acc++[y]) P (by
    have r:=L.kx i
    rw[SV.hE]at r ⊢
    intro u hu
    rcases bh.1 hu with hu|hu
    ·exact r u hu
    simp only[aw]at hu;subst hu;exact s1) K
   refine⟨S',ρ',b,g',y.val q lb::vs,xs,B,by simp only[vV,C,bn,s2,A,aj],z,?_,w⟩
   rw[kL]at k
   have:SV.a8 q lb acc=SV.a8 ve lb acc:=SV.di L.ve (λ_ _=>rfl) i
   rw[this]at k
   simpa[SV.a8]using k
  cases e
theorem qLo{n1:Lim}{b:St}{y:LR}{p:LH}{e:LI}{B:zR}{fr1:Fr}{H1:AH}(h:SR E n1 H0 g0 b y p e B fr1 H1){sz:Nat}{xs:LS}(N:SV.kx b.n b.ae.length xs)(M:n0.n=n1.n)(L:n0.K=n1.K)(K:n0.F.length<=b.ae.length/\∀k a,n0.F[k]? = some a->e k=a)(e4:n0.lr=n1.lr/\n0.ph=n1.ph/\n0.pn=n1.pn/\n0.pk=n1.pk)(e5:n1.da=fr::n0.da)(f1:fr.sz=sz)(f2:fr.rd=n0.rd)(q:wp E HS Q (qE4 sz κ xs b) y):∃S',S'.n=b.n/\S'.ae=b.ae/\SR E n0 H0 g0 S' y p e B fr H1/\wp E HS Q (κ (qEv xs) S') y:=by
 unfold qE4 at q;split at q;case h_2=>cases q
 rename_i l r A;refine⟨{b with af:=qRw l,sz:=sz,kh:=r},rfl,rfl,h.qa (S':={b with af:=qRw l,sz:=sz,kh:=r}) M L K (.inl e4) rfl rfl f1 f2 ?_ ?_,q⟩
 ·intro t x z;obtain⟨w,f,i,u⟩:=h.kh 0 l (by rw[A];rfl) t x (qFS z);rw[e5]at i;simp only[dq,oI]at i;subst i;exact⟨w,u⟩
 intro j C F t x z;obtain⟨w,f,i,u⟩:=h.kh (j+1) C (by rw[A];simpa using F) t x z;rw[e5]at i;exact⟨w,f,by simpa using i,u⟩
theorem qLY{ve:LH}{lb:LI}(xs:LS){vs:LA}(h:SV.a8 ve lb xs=vs):(match some vs with|some [v]=>some v|some vs=>some (Value.tuple ⟨vs⟩)|none=>none)=some ((qEv xs).val ve lb):=by
 subst h
 match xs with
 | []=>rfl
 | [x]=>rfl
 |x::y::r=>rfl
theorem qOO{n m:Nat}(xs:LS)(h:SV.kx n m xs):(qEv xs).bd n m:=by
 match xs,h with
 | [],h=>exact h
 | [x],h=>exact h.1
 |x::y::r,h=>exact h
theorem qDz{ve:LH}{lb:LI}{n m:Nat}{args:LS}(y:SV.kx n m args):∀t x,(T.ofList .leaf 0 args).get t=some x->x.bd n m/\(T.ofList .leaf 0 (SV.a8 ve lb args)).get t=some (x.val ve lb):=by intro t x h;rw[eK]at h;rw[SV.hE]at y;refine⟨y x (be h),?_⟩;rw[lN,SV.cb,cw,h];rfl
end
theorem Fin.mono{K K':pE}{fr:Fr}{H:AH}(h:Fin E c K fr H)(y:∀e fr H,K e fr H->K' e fr H):Fin E c K' fr H:=by obtain⟨e,fr1,H1,i,b⟩:=h;exact⟨e,fr1,H1,i,y _ _ _ b⟩
def qQA(E:Env)(n0:Lim)(H0:AH)(g0:zR)(QQ:Nat->Res1->Prop)(OP:qMY):Prop:=
 ∀m o S ρ ve lb g fr H κ,SR E n0 H0 g0 S ρ ve lb g fr H->wp E (qA E) (QQ m) (OP o S κ) ρ->uV E (qA E) (QQ m) n0 H0 g0 fr H o κ
theorem qFK{E:Env}{n0:Lim}{H0:AH}{g0:zR}{QQ:Nat->Res1->Prop}{OP:qMY}(A:qQA E n0 H0 g0 QQ OP)(m:Nat){all:LF}:∀(q:LB) (i:Nat) {S:St} {ρ:LR} {ve:LH} {lb:LI} {g:zR} {fr:Fr} {H:AH} {κ:St->Tree},SR E n0 H0 g0 S ρ ve lb g fr H->wp E (qA E) (QQ m) (qLT OP all q S κ) ρ->
  ∃S' ρ' j k g' e H',SR E n0 H0 g0 S' ρ' j k g' e H'/\wp E (qA E) (QQ m) (κ S') ρ'/\kG E all false q i fr H e H'
 | [],i,S,ρ,ve,lb,g,fr,H,κ,h,b=>⟨S,ρ,ve,lb,g,fr,H,h,b,.nil⟩
 | o::q,i,S,ρ,ve,lb,g,fr,H,κ,h,b=>by
  simp only[qLT]at b
  obtain⟨R,C,b⟩:=qHv h b
  rcases b with⟨z,b⟩|⟨z,b⟩
  ·obtain⟨y,P,ρ2,ve2,F,O,H2,M,L,b,K⟩:=A m _ _ _ _ _ _ _ _ _ C b
   simp only at b
   split at b
   ·rename_i N w
    obtain⟨B,p,h3⟩:=qAf M L w
    obtain⟨S',ρ',j,k,g',e,H',u,t,r⟩:=qFK A m q (i+1) h3 b
    exact⟨S',ρ',j,k,g',e,H',u,t,.cons z K p r⟩
   cases b
  split at b
  ·rename_i N w
   obtain⟨B,p,h3⟩:=qAf C (y:=.gd []) trivial w
   obtain⟨S',ρ',j,k,g',e,H',u,t,r⟩:=qFK A m q (i+1) h3 b
   exact⟨S',ρ',j,k,g',e,H',u,t,.pr z p r⟩
  cases b
def Kt(E:Env)(n0:Lim)(H0:AH)(g0:zR)(QQ:Nat->Res1->Prop)(n:Nat)(κ:KC):pE:=λe fr H=>∃m,m<=n/\Kq E n0 H0 g0 (QQ m) κ e fr H
inductive Place (E:Env) (J:Nat->St->Tree) (OP:qMY) (RG:qQJ) (at0:Nat) (c0:Code) (κ0:KC):Nat->Code->KC->Prop
 |root:Place E J OP RG at0 c0 κ0 at0 c0 κ0
 |pf {n:Nat} {a b:Code} {κ:KC} (h:Place E J OP RG at0 c0 κ0 n (.seq a b) κ):Place E J OP RG at0 c0 κ0 n a (qLG (λS=>qDQ E J OP RG (n+nl a) b S κ) κ)
 |ou {n:Nat} {a b:Code} {κ:KC} (h:Place E J OP RG at0 c0 κ0 n (.seq a b) κ):Place E J OP RG at0 c0 κ0 (n+nl a) b κ
 |nq {n:Nat} {c:LM} {a b:Code} {κ:KC} (h:Place E J OP RG at0 c0 κ0 n (.cond c a b) κ):Place E J OP RG at0 c0 κ0 n a κ
 |np {n:Nat} {c:LM} {a b:Code} {κ:KC} (h:Place E J OP RG at0 c0 κ0 n (.cond c a b) κ):Place E J OP RG at0 c0 κ0 (n+nl a) b κ
 |block {n id:Nat} {b:Code} {κ:KC} (h:Place E J OP RG at0 c0 κ0 n (.block id b) κ):Place E J OP RG at0 c0 κ0 n b (dE id κ)
 |loop {n:Nat} {b:Code} {κ:KC} (h:Place E J OP RG at0 c0 κ0 n (.loop b) κ):Place E J OP RG at0 c0 κ0 (n+1) b (iV J n κ)
 |scope {n:Nat} {b:Code} {κ:KC} (h:Place E J OP RG at0 c0 κ0 n (.scope b) κ):Place E J OP RG at0 c0 κ0 n b κ
section
variable{E:Env}{n0:Lim}{H0:AH}{g0:zR}{QQ:Nat->Res1->Prop}{J:Nat->St->Tree}{OP:qMY}{RG:qQJ}{at0:Nat}{c0:Code}{κ0:KC}
theorem Kt.mono{n y:Nat}(b:n<=y){κ:KC}:∀e fr H,Kt E n0 H0 g0 QQ n κ e fr H->Kt E n0 H0 g0 QQ y κ e fr H:=by rintro e fr H ⟨m,hm,h⟩;exact⟨m,lT hm b,h⟩
theorem qEG{P:Nat->St}{RH:Array Tmp->Code->Code->KC->LW}{n:Nat}{κ:KC}(y:Place E J OP RG at0 c0 κ0 n c κ):∀x∈wE E P J OP RG RH n c κ,x∈wE E P J OP RG RH at0 c0 κ0:=by
 induction y with
 |root=>exact λx h=>h
 |pf y ih=>exact λx h=>ih x (by simp only[wE];exact dz _ h)
 |ou y ih=>exact λx h=>ih x (by simp only[wE];exact ee _ h)
 |nq y ih=>exact λx h=>ih x (by simp only[wE];exact dz _ h)
 |np y ih=>exact λx h=>ih x (by simp only[wE];exact ee _ h)
 |block y ih=>exact λx h=>ih x (by simp only[wE];exact h)
 |loop y ih=>exact λx h=>ih x (by simp only[wE];exact mC _ h)
 |scope y ih=>exact λx h=>ih x (by simp only[wE];exact h)
def qJW(E:Env)(n0:Lim)(H0:AH)(g0:zR)(QQ:Nat->Res1->Prop)(J:Nat->St->Tree)(OP:qMY)(RG:qQJ)(at0:Nat)(c0:Code)(κ0:KC)(n:Nat):Prop:=
 ∀k b κ,Place E J OP RG at0 c0 κ0 k (.loop b) κ->∀S ρ ve lb g fr H,SR E n0 H0 g0 S ρ ve lb g fr H->wp E (qA E) (QQ n) (J k S) ρ->Fin E (.loop b) (Kt E n0 H0 g0 QQ n κ) fr H
def uU(E:Env)(n0:Lim)(H0:AH)(g0:zR)(QQ:Nat->Res1->Prop)(J:Nat->St->Tree)(OP:qMY)(RG:qQJ)(at0:Nat)(c0:Code)(κ0:KC):Prop:=
 ∀k f ps a b κ,Place E J OP RG at0 c0 κ0 k (.rangeFunc f ps a b) κ->∀n S ρ ve lb g fr H,SR E n0 H0 g0 S ρ ve lb g fr H->wp E (qA E) (QQ n) (RG f ps a b S κ) ρ->Fin E (.rangeFunc f ps a b) (Kt E n0 H0 g0 QQ n κ) fr H
theorem bB(he:EOk E)(M:qQA E n0 H0 g0 QQ OP)(L:uU E n0 H0 g0 QQ J OP RG at0 c0 κ0){n:Nat}(K:∀m,m<=n->qJW E n0 H0 g0 QQ J OP RG at0 c0 κ0 m):
  ∀(c:Code) (k:Nat) (κ:KC),Place E J OP RG at0 c0 κ0 k c κ->∀m,m<=n->∀S ρ ve lb g fr H,SR E n0 H0 g0 S ρ ve lb g fr H->wp E (qA E) (QQ m) (qDQ E J OP RG k c S κ) ρ->Fin E c (Kt E n0 H0 g0 QQ m κ) fr H
 |.seq a b,k,κ,p,m,hm,S,ρ,ve,lb,g,fr,H,h,y=>by
  refine qKX ((bB he M L K a k _ p.pf m hm S ρ ve lb g fr H h y).mono ?_)
  rintro e fr1 H1 ⟨z,q,C,r,u,w,B,A,j⟩
  cases e with
  |normal=>exact(bB he M L K b _ κ p.ou z (lT q hm) C r u w B fr1 H1 A j).mono (Kt.mono q)
  |exit id=>exact⟨z,q,C,r,u,w,B,A,j⟩
  |ret=>exact⟨z,q,C,r,u,w,B,A,j⟩
 | .cond c a b,k,κ,p,m,hm,S,ρ,ve,lb,g,fr,H,h,y=>by
  simp only[qDQ]at y
  have Tt:∀S',SR E n0 H0 g0 S' ρ ve lb g fr H->ev E fr c=some (.bool true)->wp E (qA E) (QQ m) (qDQ E J OP RG k a S' κ) ρ->Fin E (.cond c a b) (Kt E n0 H0 g0 QQ m κ) fr H:=by
   intro S' V hv y
   obtain⟨e,fr1,H1,O,N⟩:=bB he M L K a k κ p.nq m hm S' ρ ve lb g fr H V y
   exact⟨e,fr1,H1,O.rk he hv,N⟩
  have X:∀S',SR E n0 H0 g0 S' ρ ve lb g fr H->ev E fr c=some (.bool false)->wp E (qA E) (QQ m) (qDQ E J OP RG (k+nl a) b S' κ) ρ->Fin E (.cond c a b) (Kt E n0 H0 g0 QQ m κ) fr H:=by
   intro S' V hv y
   obtain⟨e,fr1,H1,O,N⟩:=bB he M L K b (k+nl a) κ p.np m hm S' ρ ve lb g fr H V y
   exact⟨e,fr1,H1,O.rl he hv,N⟩
  split at y
  ·rename_i hv;exact Tt S h (zZ (E:=E) h hv).2 y
  ·rename_i hv;exact X S h (zZ (E:=E) h hv).2 y
  ·rename_i i hv
   obtain⟨U,y⟩:=jQ y
   obtain⟨t,hd,y⟩:=qBF y
   have F:=(zZ (E:=E) h hv).2
   simp only[SV.val,uQ h.toSM U hd]at F
   cases t with
   |true=>exact Tt _ (mN h U hd) F y
   |false=>exact X _ (mN h U hd) F y
  cases y
 | .block id b,k,κ,p,m,hm,S,ρ,ve,lb,g,fr,H,h,y=>by
  refine qET ((bB he M L K b k _ p.block m hm S ρ ve lb g fr H h y).mono ?_)
  rintro e fr1 H1 ⟨z,q,C,r,u,w,B,A,j⟩
  cases e with
  |normal=>exact⟨z,q,C,r,u,w,B,A,j⟩
  |ret=>exact⟨z,q,C,r,u,w,B,A,j⟩
  | exit id'=>
   simp only[dE,zI]at j
   simp only[bW]
   split
   ·rename_i e;rw[bo e]at j
    exact⟨z,q,C,r,u,w,B,A,j⟩
   rename_i e;rw[bf e]at j
   exact⟨z,q,C,r,u,w,B,A,j⟩
 |.loop b,k,κ,p,m,hm,S,ρ,ve,lb,g,fr,H,h,y=>K m hm k b κ p S ρ ve lb g fr H h y
 |.scope b,k,κ,p,m,hm,S,ρ,ve,lb,g,fr,H,h,y=>qES (bB he M L K b k κ p.scope m hm S ρ ve lb g fr H h y)
 | .region id ops draw,k,κ,p,m,hm,S,ρ,ve,lb,g,fr,H,h,y=>by
  cases draw with
  |true=>
   have y:wp E (qA E) (QQ m) (sx E qWx 1 (.region id ops true) S κ) ρ:=y
   exact(qVR he h y).mono λe fr1 H1 hk=>⟨m,vP _,hk⟩
  |false=>
   have y:wp E (qA E) (QQ m) (qLT OP ops ops.toList S (κ .normal)) ρ:=y
   obtain⟨S',ρ',P,R,g',W,H',O,N,Z⟩:=qFK M m ops.toList 0 h y
   exact⟨_,W,H',.region he Z,m,vP _,S',ρ',P,R,g',O,N⟩
 |.skip,k,κ,p,m,hm,S,ρ,ve,lb,g,fr,H,h,y=>⟨_,fr,H,.skip,m,vP _,S,ρ,ve,lb,g,h,y⟩
 |.label l,k,κ,p,m,hm,S,ρ,ve,lb,g,fr,H,h,y=>⟨_,fr,H,.label,m,vP _,S,ρ,ve,lb,g,h,y⟩
 |.ret,k,κ,p,m,hm,S,ρ,ve,lb,g,fr,H,h,y=>⟨_,fr,H,.ret,m,vP _,S,ρ,ve,lb,g,h,y⟩
 |.exit id,k,κ,p,m,hm,S,ρ,ve,lb,g,fr,H,h,y=>⟨_,fr,H,.exit,m,vP _,S,ρ,ve,lb,g,h,y⟩
 |.rangeFunc f ps a b,k,κ,p,m,hm,S,ρ,ve,lb,g,fr,H,h,y=>L k f ps a b κ p m S ρ ve lb g fr H h y
 |.goto _,k,κ,p,m,hm,S,ρ,ve,lb,g,fr,H,h,y=>by cases y
 |.refuse _,k,κ,p,m,hm,S,ρ,ve,lb,g,fr,H,h,y=>by cases y
end
variable{fn:Func}
section
variable{E:Env}{n0:Lim}{H0:AH}{g0:zR}{S:St}{ρ:LR}{ve:LH}{lb:LI}{g:zR}{fr:Fr}{H:AH}{Q:Res1->Prop}{HS:LO->LR->La}{I:qIv}
theorem qOK(h:SR E n0 H0 g0 S ρ ve lb g fr H)(e:wp E (qA E) Q (qYD E I o S κ) ρ):uV E (qA E) Q n0 H0 g0 fr H o κ:=by
 have y:wp E (qA E) Q (jM E o S κ) ρ->uV E (qA E) Q n0 H0 g0 fr H o κ:=λe=>(s7 h e).toR;unfold qYD at e;split at e;case h_2=>exact y e
 rename_i p first cap i
 split at e;case h_2=>exact y e
 split at e;case h_2=>cases e
 rename_i a b k j;obtain⟨a1,a2⟩:=lZ (E:=E) h k;obtain⟨r,q⟩:=lZ (E:=E) h j;refine⟨.fn (.func p) a b,S,ρ,ve,lb,g,H,h,⟨a1,r⟩,e,.kl (vP _) ?_⟩;unfold jH;rw[i];simp only[a2,q,one,rM,dn,aj,SV.val]
theorem qIF(he:EOk E){κ:KC}(h:SR E n0 H0 g0 S ρ ve lb g fr H)(y:wp E (qA E) Q (zB2 E I c S κ) ρ):Fin E c (Kq E n0 H0 g0 Q κ) fr H:=by
 have j:∀m,m<=0->qJW E n0 H0 g0 (λ_=>Q) qWx (qYD E I) qI2 1 c κ m:=λm _ k b κ q S ρ ve lb g fr H h y=>by cases y
 have p:uU E n0 H0 g0 (λ_=>Q) qWx (qYD E I) qI2 1 c κ:=λ_ _ _ _ _ _ _ _ _ _ _ _ _ _ _ _ y=>by cases y
 refine(bB (QQ:=λ_=>Q) he (λm o S ρ ve lb g fr H κ h y=>qOK h y) p j c 1 κ .root 0 (vP _) S ρ ve lb g fr H h y).mono ?_;rintro e fr1 H1 ⟨m,_,i⟩;exact i
theorem qXk(he:EOk E)(h:SR E n0 H0 g0 S ρ ve lb g fr H){K:LO}{args:LS}(V:E.funcs.get K=some fn)(C:fn.body=some c)(p:SV.kx S.n S.ae.length args)(W:jH E fr o H=some (.enter K (SV.a8 ve lb args),H))(y:wp E (qA E) Q (qXl E I fn c args S κ) ρ):uV E (qA E) Q n0 H0 g0 fr H o κ:=by
 unfold qXl at y;have t:(SV.a8 ve lb args).length=args.length:=by rw[SV.cb,bk]
 have h1:SR E {n0 with da:=fr::n0.da,rd:=false,F:=(List.range S.ae.length).map lb} H0 g0 {S with af:=T.ofList .leaf 0 args,sz:=Nat.max fn.ntmps args.length,kh:=lV S.af S.sz::S.kh} ρ ve lb g ⟨Nat.max fn.ntmps (SV.a8 ve lb args).length,false,T.ofList .leaf 0 (SV.a8 ve lb args)⟩ H:=by refine h.qa (n1:={n0 with da:=fr::n0.da,rd:=false,F:=(List.range S.ae.length).map lb}) (S':={S with af:=T.ofList .leaf 0 args,sz:=Nat.max fn.ntmps args.length,kh:=lV S.af S.sz::S.kh}) rfl rfl ⟨by simp,λk a u=>?_⟩ (.inl ⟨rfl,rfl,rfl,rfl⟩) rfl rfl (by simp only[t]) rfl (qDz p) (dP.push h);rw[cw,aa]at u;obtain⟨q,U,rfl⟩:=u;obtain⟨q1,N⟩:=gI U;rw[List.getElem_range]at N;rw[N]
 obtain⟨e,fr1,H1,O,S1,w,P,r,g1,Z,y⟩:=qIF he h1 y;have b:(e=.normal∨e=.ret)->wp E (qA E) Q (qGY E (qE4 S.sz κ) S1 [] fn.results.toList) w->uV E (qA E) Q n0 H0 g0 fr H o κ:=by
  intro B y;obtain⟨S2,ρ2,ve2,g2,vs,xs,h3,R,M,L,y⟩:=qFB fn.results.toList [] Z trivial y;simp only[SV.a8,df]at L;have i:=h3.fix;obtain⟨S3,s1,s2,X,y⟩:=qLo (n0:=n0) (fr:=fr) h3 M rfl rfl ⟨(by have:S.ae.length<=S2.ae.length:=(by have:=i.1;simpa using this);exact lT h.fix.1 this),λk a u=>(by have z:k<S.ae.length:=bp (gI u).1 h.fix.1;rw[i.2 k (lb k) (by rw[cw,gb z];rfl)];exact h.fix.2 k a u)⟩ ⟨rfl,rfl,rfl,rfl⟩ rfl h.sz h.rd y
  ·have j:xK E K (SV.a8 ve lb args) H ((qEv xs).val ve2 r) H1:=vK.call he V C O B (by rw[R];exact qLY xs L);have A:H.next<=H1.next:=O.1;exact⟨qEv xs,S3,ρ2,ve2,r,g2,_,X.raise,by rw[s1,s2];exact qOO xs M,y,.om W j.raise (ja A)⟩
 cases e with
 |normal=>exact b (.inl rfl) y
 |ret=>exact b (.inr rfl) y
 |exit id=>cases y
end
variable{ps:List Tmp}
section
variable{E:Env}{H H1 H2 H3:AH}{fr fr1 fr2:Fr}
open Classical in
theorem yF.of{O:Option Code}{W:Fr}{A:List Tmp}{K w:Code}{M:Nat}{pd t:_}{a b:Code}{r:Nat}{j:LoopState}{k:Option Code}{z:Fr}{qRe:List Tmp}{a3 F:Code}{N:Nat}{e:AExit}(Z:H.blocks.get l=some ⟨.loop .ready O W A K w,M,true⟩)(p:wZ W A args=some fr)(h1:vK E K fr H .normal fr1 H1)(V:H1.blocks.get l=some ⟨.loop .ready pd t ps a b,r,true⟩)(h2:vK E w fr1 (H1.write l ⟨.loop .ready pd t ps a b,r,true⟩ (.loop .busy pd t ps a b)) e fr2 H3)(U:H3.blocks.get l=some ⟨.loop j k z qRe a3 F,N,true⟩):yF E l args H (.bool (wO e).isNone) (H3.write l ⟨.loop j k z qRe a3 F,N,true⟩ (.loop (bif (wO e).isNone then .ready else .done) (wO e) z qRe a3 F)):=by
 let L:=H1.write l ⟨.loop .ready pd t ps a b,r,true⟩ (.loop .busy pd t ps a b);have R:L≠H:=by
  intro e;have:L.blocks.get l=some ⟨.loop .busy pd t ps a b,r,true⟩:=by show(H1.write _ _ _).blocks.get l=_;rw[AH.ey,bo rfl]
  rw[e,Z]at this;cases this
 let ih:Cmd->AH->xM:=λcmd X=>if cmd=.code K fr/\X=H then some (.ex .normal fr1,H1)else if cmd=.code w fr1/\X=L then some (.ex e fr2,H3)else none;have i:∀{cmd:Cmd} {X:AH} {q:Out×AH},ih cmd X=some q->(cmd=.code K fr/\X=H/\q=(.ex .normal fr1,H1))∨(cmd=.code w fr1/\X=L/\q=(.ex e fr2,H3)):=by
  intro cmd X q y;simp only[ih]at y;split at y
  ·rename_i C;cases y;exact .inl ⟨C.1,C.2,rfl⟩
  split at y
  ·rename_i C;cases y;exact .inr ⟨C.1,C.2,rfl⟩
  cases y
 have io:IhOK E ih:=by
  refine {up:=?_,call:=?_,round:=?_,code:=?_,mr:=?_}
  ·intro cmd X out Y y;rcases i y with⟨_,u,h3⟩|⟨_,u,h3⟩
   ·cases h3;rw[u];exact h1.1
   cases h3;rw[u];exact h2.1
  ·intro f args X v Y y;rcases i y with⟨h,_⟩|⟨h,_⟩<;>cases h
  ·intro f args X v Y y;rcases i y with⟨h,_⟩|⟨h,_⟩<;>cases h
  ·intro c2 fr2 X e2 fr3 Y y;rcases i y with⟨h,rfl,h3⟩|⟨h,h',h3⟩
   ·cases h;cases h3;exact h1.2
   cases h;cases h3;rw[h'];exact h2.2
  intro c2 fr2 X v2 Y y;rcases i y with⟨_,_,h3⟩|⟨_,_,h3⟩<;>cases h3
 have i1:ih (.code K fr) H=some (.ex .normal fr1,H1):=by simp[ih]
 have i2:ih (.code w fr1) L=some (.ex e fr2,H3):=by simp only[ih];rw[bf (λh=>R h.2),bo (by simp)]
 have B:gU E ih l args H=some (.val (.bool (wO e).isNone),H3.write l ⟨.loop j k z qRe a3 F,N,true⟩ (.loop (bif (wO e).isNone then .ready else .done) (wO e) z qRe a3 F)):=by have P:ih (.code w fr1) (H1.write l ⟨.loop .ready pd t ps a b,r,true⟩ (.loop .busy pd t ps a b))=some (.ex e fr2,H3):=i2;simp only[gU,Z,p,i1,V,P,U]
 obtain⟨v,hv,hr⟩:=qGT io B;cases hv;exact hr
open Classical in
theorem vK.range(he:EOk E){f:LM}{params:Array Tmp}{assign bd:Code}{g:LO}{first cap:LA}{st:LoopState}{y:Option Code}{t:Fr}{a b:Code}{r:Nat}{e:AExit}(L:fr.rd=false)(N:ev E fr f=some (.func (.func g) ⟨first⟩ ⟨cap⟩))(M:E.funcs.get g=some fn)(j:xK E g (first++[.func (.yield H.next) #[] #[]]++cap) (H.new (.loop .ready none ⟨fr.sz,true,fr.t⟩ params.toList assign bd)) v H2)(Z:H.next+1<=H2.next)(hl:H2.blocks.get H.next=some ⟨.loop st y t ps a b,r,true⟩)(K:st≠.busy)(P:(y=none/\e=.normal)∨(y=some .ret/\e=.ret)∨∃id,y=some (.exit id)/\e=.exit id):vK E (.rangeFunc f params assign bd) fr H e fr (H2.write H.next ⟨.loop st y t ps a b,r,true⟩ (.loop .exhausted y t ps a b)):=by
 let u:=H2.write H.next ⟨.loop st y t ps a b,r,true⟩ (.loop .exhausted y t ps a b);let O:=H.new (.loop .ready none ⟨fr.sz,true,fr.t⟩ params.toList assign bd);let ih:Cmd->AH->xM:=λcmd X=>if cmd=.call g (first++[.func (.yield H.next) #[] #[]]++cap)/\X=O then some (.val v,H2)else if(∃c,y=some c/\cmd=.code c fr)/\X=u then some (.ex e fr,u)else none;have k:∀{cmd:Cmd} {X:AH} {q:Out×AH},ih cmd X=some q->(cmd=.call g (first++[.func (.yield H.next) #[] #[]]++cap)/\X=O/\q=(.val v,H2))∨(∃c,y=some c/\cmd=.code c fr/\X=u/\q=(.ex e fr,u)):=by
  intro cmd X q i;simp only[ih]at i;split at i
  ·rename_i j;cases i;exact .inl ⟨j.1,j.2,rfl⟩
  split at i
  ·rename_i j;cases i;obtain⟨⟨c,p,B⟩,h3⟩:=j;exact .inr ⟨c,p,B,h3,rfl⟩
  cases i
 have w:∀c,y=some c->vK E c fr u e fr u:=by
  intro c j;rcases P with⟨p,_⟩|⟨p,B⟩|⟨id,p,B⟩
  ·rw[p]at j;cases j
  ·rw[p]at j;cases j;subst B;exact .ret
  rw[p]at j;cases j;subst B;exact .exit
 have U:IhOK E ih:=by
  refine {up:=?_,call:=?_,round:=?_,code:=?_,mr:=?_}
  ·intro cmd X R Y i;rcases k i with⟨_,z,h3⟩|⟨c,_,_,z,h3⟩
   ·cases h3;rw[z];exact Z
   cases h3;rw[z];exact vP _
  ·intro f args X v Y i;rcases k i with⟨h,rfl,h3⟩|⟨_,_,h,_⟩
   ·cases h;cases h3;exact j
   cases h
  ·intro f args X v Y i;rcases k i with⟨h,_⟩|⟨_,_,h,_⟩<;>cases h
  ·intro c2 fr2 X e2 fr3 Y i;rcases k i with⟨h,_⟩|⟨c,p,h,h',h3⟩
   ·cases h
   cases h;cases h3;rw[h'];exact(w _ p).2
  intro c2 fr2 X v2 Y i;rcases k i with⟨h,_⟩|⟨_,_,_,_,h3⟩
  ·cases h
  cases h3
 have V:ih (.call g (first++[.func (.yield H.next) #[] #[]]++cap)) O=some (.val v,H2):=by simp[ih]
 have F:H.next<=u.next:=by show H.next<=H2.next;omega
 have A:eF E ih fr f params.toList assign bd H=some (.ex e fr,u):=by
  have C:ih (.call g ((⟨first⟩:LD).toList++[.func (.yield H.next) #[] #[]]++(⟨cap⟩:LD).toList)) (H.new (.loop .ready none ⟨fr.sz,true,fr.t⟩ params.toList assign bd))=some (.val v,H2):=V;simp only[eF,L,N,M,C,hl,bf K];rcases P with⟨rfl,rfl⟩|⟨rfl,rfl⟩|⟨id,rfl,rfl⟩
  ·rfl
  ·simp only[ih];rw[bf (λh=>by cases h.1),bo ⟨⟨_,rfl,rfl⟩,rfl⟩]
  simp only[ih];rw[bf (λh=>by cases h.1),bo ⟨⟨_,rfl,rfl⟩,rfl⟩]
 obtain⟨e',fr',W,hr⟩:=qG1 he U A;cases W;exact⟨F,hr⟩
end
variable{x:Option (Option Blk)}
theorem qA6(h:qBG x=true):x=some (some (.loop 0 0)):=by
 unfold qBG at h;split at h
 ·rfl
 cases h
theorem qJd(h:qJe x=true):x=some (some (.loop 1 0)):=by
 unfold qJe at h;split at h
 ·rfl
 cases h
section
variable{E:Env}{n0:Lim}{H0:AH}{g0:zR}{S:St}{ρ:LR}{ve:LH}{lb:LI}{g:zR}{fr:Fr}{H:AH}{Q:Res1->Prop}{HS:LO->LR->La}{I:qIv}
theorem qIg{n m sz:Nat}:∀{ps:List Tmp} {args:LS} {sl i:T SV} {fr:Fr},qDw sz sl ps args=some i->SV.kx n m args->fr.sz=sz->(∀t x,sl.get t=some x->x.bd n m/\fr.t.get t=some (x.val ve lb))->
  ∃b,wZ fr ps (SV.a8 ve lb args)=some b/\b.sz=sz/\b.rd=fr.rd/\∀t x,i.get t=some x->x.bd n m/\b.t.get t=some (x.val ve lb)
 | [],[],sl,i,fr,h,_,hs,hr=>by
  simp only[qDw,oI]at h
  subst h
  exact⟨fr,rfl,hs,rfl,hr⟩
 | [],_::_,_,_,_,h,_,_,_=>by simp[qDw]at h
 |_::_,[],_,_,_,h,_,_,_=>by simp[qDw]at h
 | p::ps,x::xs,sl,i,fr,h,q,hs,hr=>by
  simp only[qDw]at h
  cases k:Nat.ble (p+1) sz with
  |false=>rw[k]at h;cases h
  | true=>
   rw[k]at h
   simp only[ai]at h
   obtain⟨b,z,w,u,r⟩:=qIg (fr:=⟨fr.sz,fr.rd,fr.t.put p (some (x.val ve lb))⟩) h q.2 hs (λt y j=>by
    rw[T.ch]at j ⊢
    split at j
    ·rename_i e;cases j;rw[bo e];exact⟨q.1,rfl⟩
    rename_i e;rw[bf e];exact hr t y j)
   refine⟨b,?_,w,u,r⟩
   simp only[SV.a8,wZ,yI,hs,k,ai]
   simpa only[hs]using z
theorem qRZ(e:AExit):wO e=qDT (qLS e)/\(wO e).isNone=Nat.beq (qLS e) 0:=by
 cases e with
 |normal=>exact⟨rfl,rfl⟩
 |ret=>exact⟨rfl,rfl⟩
 |exit n=>exact⟨rfl,rfl⟩
theorem qLJ(he:EOk E)(h:SR E n0 H0 g0 S ρ ve lb g fr H){Y:Site}{args:LS}(hY:n0.ph=Y.ps/\n0.pn=Y.a/\n0.pk=Y.b/\n0.lr.sz=Y.sz)(hfr:n0.da[0]? = some n0.lr)(M:SV.kx S.n S.ae.length args)(ha:(∃pd t a b r,H.blocks.get (lb Y.L)=some ⟨.loop pd none t Y.ps a b,r,true⟩)->jH E fr o H=some (.round (lb Y.L) (SV.a8 ve lb args),H))(y:wp E (qA E) Q (qIO E I Y args S κ) ρ):uV E (qA E) Q n0 H0 g0 fr H o κ:=by
 obtain⟨R,P,O,y4⟩:=hY;unfold qIO at y;obtain⟨hrdy,y⟩:=jQ y;have hb0:=qA6 hrdy;split at y;case h_2=>cases y
 rename_i l r w;split at y;case h_2=>cases y
 rename_i sl L;obtain⟨_,rt,N,q3⟩:=h.ae Y.L _ hb0;rw[R,P,O]at N;have B:Y.L<S.ae.length:=(gI hb0).1;have V:H.blocks.get (lb Y.L)=some ⟨.loop .ready none ⟨n0.lr.sz,true,n0.lr.t⟩ Y.ps Y.a Y.b,rt,true⟩:=N;obtain⟨fr0,b1,b2,b3,b4⟩:=qIg (fr:=⟨n0.lr.sz,true,n0.lr.t⟩) (ve:=ve) (lb:=lb) L M y4 (λt x hx=>by obtain⟨r1,f,r2,r3⟩:=h.kh 0 l (by rw[w];rfl) t x (qFS hx);rw[hfr]at r2;cases r2;exact⟨r1,r3⟩);have q:=dP.push h;rw[w]at q;let n1:Lim:={n0 with da:=fr::n0.da,rd:=true,F:=(List.range S.ae.length).map lb};have hF:∀k,k<S.ae.length->n1.F[k]? = some (lb k):=λk A=>by show((List.range S.ae.length).map lb)[k]? = _;rw[cw,gb A];rfl
 have h1:SR E n1 H0 g0 {S with af:=sl,sz:=Y.sz,kh:=lV S.af S.sz::l::r} ρ ve lb g fr0 H:=by
  refine h.qa (n1:=n1) (S':={S with af:=sl,sz:=Y.sz,kh:=lV S.af S.sz::l::r}) rfl rfl ⟨by simp[n1],λk a A=>?_⟩ (.inl ⟨rfl,rfl,rfl,rfl⟩) rfl rfl b2 (by rw[b3]) b4 q;have K:k<S.ae.length:=by have:=(gI A).1;simpa[n1]using this
  rw[hF k K]at A;cases A;rfl
 obtain⟨e1,fr1,H1,Z,S1,ρ1,ve1,C,g1,h2,y⟩:=qIF he h1 y;cases e1 with
 |ret=>cases y
 |exit _=>cases y
 | normal=>
  simp only[qU8]at y;obtain⟨hr1,y⟩:=jQ y;have hb1:=qA6 hr1;obtain⟨_,p,p2,p3⟩:=h2.ae Y.L _ hb1;have u:C Y.L=lb Y.L:=h2.fix.2 Y.L _ (hF _ B);rw[u]at p2;have W:H1.blocks.get (lb Y.L)=some ⟨.loop .ready none ⟨n0.lr.sz,true,n0.lr.t⟩ Y.ps Y.a Y.b,p,true⟩:=by have p2:H1.blocks.get (lb Y.L)=some ⟨.loop .ready none ⟨n0.lr.sz,true,n0.lr.t⟩ n0.ph n0.pn n0.pk,p,true⟩:=p2;rw[R,P,O]at p2;exact p2
  have h3:SR E n1 H0 g0 (S1.kj Y.L (.loop 1 0)) ρ1 ve1 C g1 fr1 (H1.write (C Y.L) ⟨.loop .ready none ⟨n0.lr.sz,true,n0.lr.t⟩ Y.ps Y.a Y.b,p,true⟩ (.loop .busy none ⟨n0.lr.sz,true,n0.lr.t⟩ Y.ps Y.a Y.b)):=by refine h2.oi hb1 (by rw[u];exact W) trivial λbs q1 N=>⟨p,?_,N⟩;show bs _=some ⟨.loop .busy none ⟨n0.lr.sz,true,n0.lr.t⟩ n0.ph n0.pn n0.pk,p,true⟩;rw[R,P,O];exact q1
  rw[u]at h3;obtain⟨e,fr2,H3,X,S2,ρ2,ve2,i,g2,h4,y⟩:=qIF he h3 y;simp only[qVj]at y;obtain⟨hr2,y⟩:=jQ y;have hb2:=qJd hr2;obtain⟨_,j,u2,u3⟩:=h4.ae Y.L _ hb2;have z:i Y.L=lb Y.L:=h4.fix.2 Y.L _ (hF _ B);have U:H3.blocks.get (i Y.L)=some ⟨.loop .busy none ⟨n0.lr.sz,true,n0.lr.t⟩ Y.ps Y.a Y.b,j,true⟩:=by have u2:H3.blocks.get (i Y.L)=some ⟨.loop .busy none ⟨n0.lr.sz,true,n0.lr.t⟩ n0.ph n0.pn n0.pk,j,true⟩:=u2;rw[R,P,O]at u2;exact u2
  obtain⟨j1,j2⟩:=qRZ e
  have h5:SR E n1 H0 g0 (S2.kj Y.L (.loop (bif Nat.beq (qLS e) 0 then 0 else 2) (qLS e))) ρ2 ve2 i g2 fr2
    (H3.write (i Y.L) ⟨.loop .busy none ⟨n0.lr.sz,true,n0.lr.t⟩ Y.ps Y.a Y.b,j,true⟩ (.loop (bif (wO e).isNone then .ready else .done) (wO e) ⟨n0.lr.sz,true,n0.lr.t⟩ Y.ps Y.a Y.b)):=by
   refine h4.oi hb2 U trivial λbs q1 N=>⟨j,?_,N⟩
   rw[q1,j2,j1]
   show _=some (ABlk.mk (AObj.loop _ (qDT (qLS e)) ⟨n0.lr.sz,true,n0.lr.t⟩ n0.ph n0.pn n0.pk) j true)
   rw[R,P,O]
   cases Nat.beq (qLS e) 0<;>rfl
  have hbl:(S2.kj Y.L (.loop (bif Nat.beq (qLS e) 0 then 0 else 2) (qLS e))).ae.length=S2.ae.length:=by simp[St.kj]
  obtain⟨S3,s1,s2,h6,y⟩:=qLo (n0:=n0) (fr:=fr) h5 (xs:=[.c (.bool (Nat.beq (qLS e) 0))]) ⟨trivial,trivial⟩ rfl rfl
   ⟨by have h:=h.fix.1;have h':=h5.fix.1;simp only[n1,bk,gm]at h';omega,λk a A=>by have K:k<S.ae.length:=bp (gI A).1 h.fix.1;rw[h5.fix.2 k (lb k) (hF k K)];exact h.fix.2 k a A⟩ ⟨rfl,rfl,rfl,rfl⟩ rfl h.sz h.rd y
  have hR:=yF.of V b1 Z W X (z▸U);have hle:H.next<=H3.next:=lT Z.1 X.1;refine⟨.c (.bool (Nat.beq (qLS e) 0)),S3,ρ2,ve2,i,g2,_,h6.raise,trivial,y,?_⟩;have hx:=lC.qk (ha ⟨_,_,_,_,_,V⟩) hR.raise (ja hle);rw[z,SV.val,←j2];exact hx
end
def qBl(E:Env)(I:qIv):Prop:=∀g fn c,qA5 I g=some (fn,c)->E.funcs.get g=some fn/\fn.body=some c
theorem qBl.nil:qBl E []:=λ_ _ _ h=>by cases h
theorem qBl.cons{E:Env}{f:LO}{fn:Func}{c:Code}{I:qIv}(i:E.funcs.get f=some fn)(e:fn.body=some c)(h:qBl E I):qBl E ((f,fn,c)::I):=by
 intro g b d y;simp only[qA5,zI]at y;split at y
 ·grind
 exact h g b d y
def qJU(n0:Lim)(Y:Option Site):Prop:=∀y,Y=some y->(n0.ph=y.ps/\n0.pn=y.a/\n0.pk=y.b/\n0.lr.sz=y.sz)/\n0.da[0]? = some n0.lr
section
variable{E:Env}{n0:Lim}{H0:AH}{g0:zR}{S:St}{ρ:LR}{ve:LH}{lb:LI}{g:zR}{fr:Fr}{H:AH}{Q:Res1->Prop}{I:qIv}{Y:Option Site}
theorem qOJ(he:EOk E)(U:qBl E I)(R:qJU n0 Y)(h:SR E n0 H0 g0 S ρ ve lb g fr H)(e:wp E (qA E) Q (qKu E I Y o S κ) ρ):uV E (qA E) Q n0 H0 g0 fr H o κ:=by
 have i:wp E (qA E) Q (jM E o S κ) ρ->uV E (qA E) Q n0 H0 g0 fr H o κ:=λe=>(s7 h e).toR;unfold qKu at e;split at e;case h_2=>exact qOK h e
 rename_i c C;split at e;case h_2=>exact i e
 rename_i f args F k;obtain⟨M,K⟩:=lZ (E:=E) h k;split at e
 ·rename_i L j;obtain⟨B,q⟩:=zZ (E:=E) h j;split at e;case h_2=>cases e
  rename_i y;obtain⟨z,u⟩:=jQ e;clear e;simp only[aE]at z;have V:=vW z.1;subst V;obtain⟨O,N⟩:=R y rfl;refine qLJ he h O N M (λ⟨pd,t,a,b,r,P⟩=>?_) u;simp only[SV.val]at q;have w:Nat.beq y.ps.length (SV.a8 ve lb args).length=true:=by rw[SV.cb,bk];exact z.2
  unfold jH;rw[C];simp only[kX,K,F,q,P,w,ai]
 ·rename_i W first cap j
  obtain⟨B,q⟩:=zZ (E:=E) h j;split at e;case h_2=>exact i e
  rename_i fn X w;obtain⟨p,A⟩:=U _ _ _ w;refine qXk he h p A ?_ ?_ e
  ·rw[SV.hE]at M ⊢;have f1:=SV.hE.1 B.1;have f2:=SV.hE.1 B.2;grind
  simp only[SV.val]at q;unfold jH;rw[C];simp only[kX,K,F,q,nQ,p,kL]
 exact i e
end
abbrev Qf(E:Env)(Ts:Nat->Tree)(d:D)(n:Nat):Res1->Prop:=λr=>match r with
 |.ret d'=>d'=d
 |.jump k' ds=>qPs E (qA E) Ts n k' ds d
section
variable{E:Env}{n0:Lim}{H0:AH}{g0:zR}{Ts:LV}{d:D}{J:Nat->St->Tree}{OP:qMY}{RG:qQJ}{at0:Nat}{c0:Code}{κ0:KC}
theorem qAt(he:EOk E)(V:qQA E n0 H0 g0 (Qf E Ts d) OP)(U:uU E n0 H0 g0 (Qf E Ts d) J OP RG at0 c0 κ0){hV:Nat->Pat}{szs:LI}{RH:Array Tmp->Code->Code->KC->LW}(L:J=λk S=>wN (szs k) (hV k) k S)(R:∀x∈wE E (λk=>(hV k).st (szs k)) J OP RG RH at0 c0 κ0,Ts x.1=x.2)(K:∀k κ b,Place E J OP RG at0 c0 κ0 k (.loop b) κ->n0.F.length<=(hV k).ae.length):
  ∀n m,m<=n->qJW E n0 H0 g0 (Qf E Ts d) J OP RG at0 c0 κ0 m
 |0,m,hm=>by
  intro k b κ q S ρ ve lb g fr H h w
  rw[Nat.le_zero.1 hm,L]at w
  obtain⟨ds,r,g',_,A⟩:=qBE h w (K k κ b q)
  cases A
 | n+1,m,hm=>by
  have ih:=qAt he V U L R K n
  rcases ir n m with W|C
  ·have:m=n+1:=by omega
   subst this
   intro k b κ q S ρ ve lb g fr H h w
   have t:=w
   rw[L]at t
   obtain⟨ds,r,g',X,A⟩:=qBE h t (K k κ b q)
   have F:Ts k=qDQ E J OP RG (k+1) b ((hV k).st (szs k)) (iV J k κ):=by
    have:=qEG (P:=λk=>(hV k).st (szs k)) (RH:=RH) q (k,qDQ E J OP RG (k+1) b ((hV k).st (szs k)) (iV J k κ)) (by simp only[wE];exact aq)
    exact R _ this
   have u:wp E (qA E) (Qf E Ts d n) (Ts k) ds:=A
   rw[F]at u
   refine qHH ((bB he V U ih b (k+1) _ q.loop n (vP _) _ ds r lb g' fr H X u).mono ?_)
   rintro e fr1 H1 ⟨z,B,O,y,i,j,N,M,p⟩
   cases e with
   |normal=>exact(ih z B k b κ q O y i j N fr1 H1 M p).mono (Kt.mono (by omega))
   |exit id=>exact⟨z,by omega,O,y,i,j,N,M,p⟩
   |ret=>exact⟨z,by omega,O,y,i,j,N,M,p⟩
  exact ih m C
end
variable{J:Nat->St->Tree}
theorem qOp{OP:qMY}{RG:qQJ}{at0:Nat}{c0:Code}{κ0:KC}{n:Nat}{κ:KC}(h:Place E J OP RG at0 c0 κ0 n c κ):at0<=n:=by
 induction h with
 |root=>exact vP _
 |pf _ ih=>exact ih
 |ou _ ih=>exact lT ih (jx _ _)
 |nq _ ih=>exact ih
 |np _ ih=>exact lT ih (jx _ _)
 |block _ ih=>exact ih
 |loop _ ih=>exact jb ih
 |scope _ ih=>exact ih
theorem qCt{l:List (Option Blk)}(h:l.all fT=true){b:Nat}{x:Blk}(y:l[b]? = some (some x)):x.od=false:=by
 rw[al]at h;have:=h _ (be y);cases x with
 |loop _ _=>cases this
 |b5 _ _=>cases this
 |cells _=>rfl
 |whole _ _=>rfl
theorem qOs{st pd:Nat}(h:qRj x=some (st,pd)):x=some (some (.loop st pd)):=by
 unfold qRj at h;split at h
 ·cases h;rfl
 cases h
theorem qMu(pd:Nat):(qDT pd=none/\qAD pd=.normal)∨(qDT pd=some .ret/\qAD pd=.ret)∨∃id,qDT pd=some (.exit id)/\qAD pd=.exit id:=by
 match pd with
 |0=>exact .inl ⟨rfl,rfl⟩
 |1=>exact .inr (.inl ⟨rfl,rfl⟩)
 |n+2=>exact .inr (.inr ⟨n,rfl,rfl⟩)
theorem qLD{st:Nat}(h:Nat.beq st 1=false):qLE st≠.busy:=by
 match st with
 |0=>simp[qLE]
 |1=>cases h
 |n+2=>simp[qLE]
variable{G:LO}{Ts:LV}{cdG:Code}{fnG:Func}{hV:Nat->Pat}{szs:LI}
section
variable{E:Env}{n0:Lim}{H0:AH}{g0:zR}{S:St}{ρ:LR}{ve:LH}{lb:LI}{g:zR}{fr:Fr}{H:AH}{I:qIv}
theorem SR.drop(h:SR E n0 H0 g0 S ρ ve lb g fr H)(b:Nat):SR E n0 H0 g0 {S with ae:=S.ae.set b none} ρ ve lb g fr H:=by
 have k:∀c x,(S.ae.set b none)[c]? = some (some x)->S.ae[c]? = some (some x)/\c≠b:=by
  intro c x j;rw[ia]at j;split at j
  ·split at j<;>cases j
  ·rename_i u;exact⟨j,λe=>u e.symm⟩
 have lv:∀c,St.live {S with ae:=S.ae.set b none} c->S.live c:=λc ⟨x,p⟩=>⟨x,(k c x p).1⟩;have y:(S.ae.set b none).length=S.ae.length:=by simp
 refine { len:=h.len,wf:=h.wf,mem:=h.mem,base:=h.base,fix:=⟨by rw[y];exact h.fix.1,h.fix.2⟩,vars:=h.vars,ae:=?_,ei:=λc j=>h.ei c (lv c j),cn:=h.cn,km:=λc d j hd=>h.km c d (lv c j) (lv d hd),h7:=h.h7,hU:=λc i j=>h.hU c i (lv c j),
          sz:=h.sz,rd:=h.rd,af:=?_,kh:=by rw[y];exact h.kh,hN:=h.hN,gk:=h.gk,low:=h.low,tab:=h.tab}
 ·intro c x p;obtain⟨r,q⟩:=h.ae c x (k c x p).1;exact⟨by rw[y];exact r,q⟩
 ·intro t x p;obtain⟨r,q⟩:=h.af t x p;exact⟨by rw[y];exact r,q⟩
theorem SR.rf(h:SR E n0 H0 g0 S ρ ve lb g fr H):SR E n0 H0 g0 {S with ae:=noIts S.ae} ρ ve lb g fr H:=by
 have inv:∀(c:Nat) (x:Blk),(Go.Am.noIts S.ae)[c]? = some (some x)->S.ae[c]? = some (some x):=by
  intro c x b;unfold Go.Am.noIts at b;rw[cw]at b;cases q:S.ae[c]? with
  |none=>rw[q]at b;cases b
  |some y=>
   rw[q]at b;simp only[aj,oI]at b;split at b
   ·cases b
   ·rw[b]
 have lv:∀c,St.live {S with ae:=Go.Am.noIts S.ae} c->S.live c:=λc ⟨x,j⟩=>⟨x,inv c x j⟩;have e:(Go.Am.noIts S.ae).length=S.ae.length:=by simp[Go.Am.noIts]
 refine { len:=h.len,wf:=h.wf,mem:=h.mem,base:=h.base,fix:=⟨by rw[e];exact h.fix.1,h.fix.2⟩,vars:=h.vars,ae:=?_,ei:=λc b=>h.ei c (lv c b),cn:=h.cn,km:=λc d b hd=>h.km c d (lv c b) (lv d hd),h7:=h.h7,hU:=λc i b=>h.hU c i (lv c b),
          sz:=h.sz,rd:=h.rd,af:=?_,kh:=by rw[e];exact h.kh,hN:=h.hN,gk:=h.gk,low:=h.low,tab:=h.tab}
 ·intro c x j;obtain⟨p,k⟩:=h.ae c x (inv c x j);exact⟨by rw[e];exact p,k⟩
 ·intro t x j;obtain⟨p,k⟩:=h.af t x j;exact⟨by rw[e];exact p,k⟩
theorem SR.sk(h:SR E n0 H0 g0 S ρ ve lb g fr H){b:Nat}{x:Blk}(z:S.ae[b]? = some (some x)){t o:AObj}{rt:Nat}(u:H.blocks.get (lb b)=some ⟨t,rt,true⟩)(r:n0.own (lb b) rt):SR E n0 H0 g0 {S with ae:=S.ae.set b none} ρ ve lb g fr (H.write (lb b) ⟨t,rt,true⟩ o):=by
 have j:S.live b:=⟨x,z⟩;refine(h.drop b).oe (X:=(·= lb b)) (λc k p=>by rw[AH.ey,bf p]) (λc k=>by subst k;exact h.ei b j) (λc d k hd e=>?_) (λc i k w=>by subst k;exact h.hU b i j w) (λc k=>by subst k;exact(wL h.toSM j).2) (h.wf.write u _) (vP _) ?_
 ·subst k;obtain⟨y,q⟩:=hd;simp only[ia]at q;split at q
  ·split at q<;>cases q
  rename_i p;exact p (h.km d b ⟨y,q⟩ j e).symm
 show _<=Nat.min H.low rt;exact dv.2 ⟨h.low,lT (bq _ _) r.1⟩
theorem qLM(he:EOk E)(hI:qBl E I){d:D}{c0:Code}{κ0:KC}{sz L u at0:Nat}(hG:qA5 I G=some (fnG,cdG))(hrd0:n0.rd=false)(hJ:J=λk S=>wN (szs k) (hV k) k S)(hT:∀x∈wE E (λk=>(hV k).st (szs k)) J (qKu E I none) (aN E J I G sz L u) (qIR E (λk=>(hV k).st (szs k)) J I cdG sz L u) at0 c0 κ0,Ts x.1=x.2)(hP:∀k,u<=k->L+1<=(hV k).ae.length):uU E n0 H0 g0 (Qf E Ts d) J (qKu E I none) (aN E J I G sz L u) at0 c0 κ0:=by
 intro k f ps a b κ hc n S ρ ve lb g fr H h q;unfold aN at q;split at q;case h_2=>cases q
 rename_i gf first cap fn cd hfv hlk
 rw[hG]at hlk;cases hlk;obtain⟨C,hw2⟩:=jQ q;clear q;simp only[aE]at C;obtain⟨⟨⟨⟨hgG,hlen⟩,N⟩,hnl⟩,hres⟩:=C;have hgG:=vW hgG;have hlen:=vW hlen;have N:=vW N;subst hgG;obtain⟨hfn,hbd⟩:=hI _ _ _ hG;obtain⟨fb,fe⟩:=zZ (E:=E) h hfv;simp only[SV.val]at fe;have hfrd:fr.rd=false:=by rw[h.rd];exact hrd0
 have hA:SR E {n0 with lr:=fr,ph:=ps.toList,pn:=a,pk:=b} H0 g0 S ρ ve lb g fr H:=h.qa (n1:={n0 with lr:=fr,ph:=ps.toList,pn:=a,pk:=b}) (S':=S) rfl rfl h.fix (.inr λb x p=>qCt hnl p) rfl rfl h.sz h.rd h.af h.kh;have hB:=hA.po (o:=.loop .ready none ⟨fr.sz,true,fr.t⟩ ps.toList a b) (x:=.loop 0 0) trivial (λbs h1 h2=>⟨_,h1,h2⟩);have A:qDN lb S.ae.length H.next L=H.next:=by rw[←hlen];exact bo rfl
 have w:∀k,k<L->qDN lb S.ae.length H.next k=lb k:=λk B=>bf (by omega);generalize hlb':qDN lb S.ae.length H.next=i at hB A w;have hbl:(S.ae++[some (Blk.loop 0 0)]).length=L+1:=by simp[hlen]
 have hbF:SV.kx S.n (L+1) first:=SV.ku (vP _) (by omega) fb.1
 have hbC:SV.kx S.n (L+1) cap:=SV.ku (vP _) (by omega) fb.2;have hargs:SV.kx S.n (S.ae++[some (Blk.loop 0 0)]).length (first++[SV.lk L]++cap):=by
  rw[hbl];rw[SV.hE]at hbF hbC ⊢;intro x p;rcases bh.1 p with p|p
  ·rcases bh.1 p with p|p
   ·exact hbF x p
   simp only[aw]at p;subst p;exact bw L
  exact hbC x p
 have hvF:SV.a8 ve i first=SV.a8 ve lb first:=SV.di (m:=L) (λ_ _=>rfl) w (by rw[←hlen];exact fb.1)
 have hvC:SV.a8 ve i cap=SV.a8 ve lb cap:=SV.di (m:=L) (λ_ _=>rfl) w (by rw[←hlen];exact fb.2);have W:SV.a8 ve i (first++[SV.lk L]++cap)=SV.a8 ve lb first++[.func (.yield H.next) #[] #[]]++SV.a8 ve lb cap:=by rw[kL,kL,hvF,hvC];simp only[SV.a8,SV.val,A]
 have hvl:(SV.a8 ve i (first++[SV.lk L]++cap)).length=(first++[SV.lk L]++cap).length:=by rw[SV.cb,bk]
 let n1:Lim:={n0 with da:=fr::n0.da,rd:=false,lr:=fr,ph:=ps.toList,pn:=a,pk:=b,F:=(List.range (L+1)).map i};have hFk:∀k,k<L+1->n1.F[k]? = some (i k):=λk B=>by show((List.range (L+1)).map i)[k]? = _;rw[cw,gb B];rfl
 have hC:SR E n1 H0 g0 {S with af:=T.ofList .leaf 0 (first++[SV.lk L]++cap),sz:=Nat.max fnG.ntmps (first++[SV.lk L]++cap).length,kh:=lV S.af S.sz::S.kh,ae:=S.ae++[some (.loop 0 0)]} ρ ve i g
   ⟨Nat.max fnG.ntmps (SV.a8 ve i (first++[SV.lk L]++cap)).length,false,T.ofList .leaf 0 (SV.a8 ve i (first++[SV.lk L]++cap))⟩ (H.new (.loop .ready none ⟨fr.sz,true,fr.t⟩ ps.toList a b)):=by
  refine hB.qa (n1:=n1) (S':={S with af:=T.ofList .leaf 0 (first++[SV.lk L]++cap),sz:=Nat.max fnG.ntmps (first++[SV.lk L]++cap).length,kh:=lV S.af S.sz::S.kh,ae:=S.ae++[some (.loop 0 0)]})
   rfl rfl ⟨by simp only[n1,bk,gm];exact jm hbl.symm,λk a B=>?_⟩ (.inl ⟨rfl,rfl,rfl,rfl⟩) rfl rfl (by simp only[hvl]) rfl (qDz hargs) (dP.push hB)
  have hlt:k<L+1:=by have:=(gI B).1;simpa[n1]using this
  rw[hFk k hlt]at B;cases B;rfl
 have hYok:qJU n1 (some ⟨ps.toList,a,b,sz,L⟩):=by intro y hy;cases hy;exact⟨⟨rfl,rfl,rfl,by show fr.sz=sz;rw[h.sz];exact N⟩,rfl⟩
 have hOg:qQA E n1 H0 g0 (Qf E Ts d) (qKu E I (some ⟨ps.toList,a,b,sz,L⟩)):=λm o S ρ ve lb g fr H κ h q=>qOJ he hI hYok h q;have hRg:uU E n1 H0 g0 (Qf E Ts d) J (qKu E I (some ⟨ps.toList,a,b,sz,L⟩)) qI2 u cdG (qK6 ⟨ps.toList,a,b,sz,L⟩ κ):=λ_ _ _ _ _ _ _ _ _ _ _ _ _ _ _ _ q=>by cases q
 have hTg:∀x∈wE E (λk=>(hV k).st (szs k)) J (qKu E I (some ⟨ps.toList,a,b,sz,L⟩)) qI2 (λ_ _ _ _=>[]) u cdG (qK6 ⟨ps.toList,a,b,sz,L⟩ κ),Ts x.1=x.2:=by intro x p;exact hT x (qEG hc x (by simp only[wE];exact p))
 have hjg:=qAt (n0:=n1) (H0:=H0) (g0:=g0) (d:=d) he hOg hRg hJ hTg (λk κ b hp=>by have:=hP k (qOp hp);simp only[n1,bk,gm];exact this);obtain⟨e,frg,H2,p,m,hm,M,ρ2,ve2,z,g2,h2,q⟩:=bB (n0:=n1) he hOg hRg (hjg n) cdG u _ .root n (vP _) _ _ _ _ _ _ _ hC hw2;have O:(e=.normal∨e=.ret)->wp E (qA E) (Qf E Ts d m) (match M.kh,qRj M.ae[L]? with
   |l::r,some (st,pd)=>bif Nat.beq st 1 then .fail else
    bif (noIts (M.ae.set L none)).all fT then κ (qAD pd) {M with af:=qRw l,sz:=sz,kh:=r,ae:=noIts (M.ae.set L none)}else .fail
   |_,_=>.fail) ρ2->Fin E (.rangeFunc f ps a b) (Kt E n0 H0 g0 (Qf E Ts d) n κ) fr H:=by
  intro hee q
  split at q
  case h_2=>cases q
  rename_i l r st pd P hpd
  have hbk:=qOs hpd
  rw[cond_eq_ite]at q
  split at q
  ·cases q
  rename_i X
  have X:Nat.beq st 1=false:=by cases hb:Nat.beq st 1 with
   |false=>rfl
   |true=>exact absurd hb X
  obtain⟨hnl2,q⟩:=jQ q
  obtain⟨_,rt,u2,u3⟩:=h2.ae L _ hbk
  have R:∀k,k<L+1->z k=i k:=λk B=>h2.fix.2 k _ (hFk k B)
  have Z:z L=H.next:=by rw[R L (bw _)];exact A
  have V:H2.blocks.get (z L)=some ⟨.loop (qLE st) (qDT pd) ⟨fr.sz,true,fr.t⟩ ps.toList a b,rt,true⟩:=u2
  have K:xK E gf (SV.a8 ve i (first++[SV.lk L]++cap)) (H.new (.loop .ready none ⟨fr.sz,true,fr.t⟩ ps.toList a b)) (.tuple ⟨[]⟩) H2:=by
   refine vK.call he hfn hbd p hee ?_
   have:fnG.results.toList=[]:=by simpa using hres
   rw[this];rfl
  have hdw:=(h2.sk hbk V u3 (o:=.loop .exhausted (qDT pd) ⟨fr.sz,true,fr.t⟩ ps.toList a b)).rf
  have U:SR E n0 H0 g0 {M with af:=qRw l,sz:=sz,kh:=r,ae:=noIts (M.ae.set L none)} ρ2 ve2 z g2 fr (H2.write (z L) ⟨.loop (qLE st) (qDT pd) ⟨fr.sz,true,fr.t⟩ ps.toList a b,rt,true⟩ (.loop .exhausted (qDT pd) ⟨fr.sz,true,fr.t⟩ ps.toList a b)):=by
   refine hdw.qa (n1:=n0) (S':={M with af:=qRw l,sz:=sz,kh:=r,ae:=noIts (M.ae.set L none)}) rfl rfl ⟨?_,λk a B=>?_⟩ (.inr λb x p=>qCt hnl2 p) rfl rfl (by rw[h.sz];exact N) h.rd ?_ ?_
   ·have q1:=h.fix.1
    have q2:=h2.fix.1
    simp only[n1,bk,gm]at q2
    simp only[noIts,bk,ef];omega
   ·have hlt:k<S.ae.length:=bp (gI B).1 h.fix.1
    rw[R k (by omega),w k (by omega)]
    exact h.fix.2 k a B
   ·intro t x p
    obtain⟨q1,f,q2,q3⟩:=hdw.kh 0 l (by show M.kh[0]? = _;rw[P];rfl) t x (qFS p)
    cases q2
    exact⟨q1,q3⟩
   intro j l' hl t x p
   obtain⟨q1,f,q2,q3⟩:=hdw.kh (j+1) l' (by show M.kh[j+1]? = _;rw[P];simpa using hl) t x p
   exact⟨q1,f,by simpa[n1]using q2,q3⟩
  rw[Z]at V U
  rw[W]at K
  have hR:=vK.range (e:=qAD pd) he hfrd fe hfn K (by have:=p.1;exact this) V (qLD X) (qMu pd)
  exact⟨_,fr,_,hR,m,hm,_,ρ2,ve2,z,g2,U,q⟩
 cases e with
 |normal=>exact O (.inl rfl) q
 |ret=>exact O (.inr rfl) q
 |exit id=>cases q
theorem qMj(he:EOk E)(hI:qBl E I){f:LO}(hf:E.funcs.get f=some fn)(i:fn.body=some c){ds:LR}{d:D}{n L:Nat}(hn:ds.length=n)(hG:qA5 I G=some (fnG,cdG))(h0:qDQ E (λk S=>wN (szs k) (hV k) k S) (qKu E I none) (aN E (λk S=>wN (szs k) (hV k) k S) I G (Nat.max fn.ntmps n) L 1000) 1 c (oM n (Nat.max fn.ntmps n)) (qAF E fn.results.toList)=Ts 0)(hT:∀x∈wE E (λk=>(hV k).st (szs k)) (λk S=>wN (szs k) (hV k) k S) (qKu E I none) (aN E (λk S=>wN (szs k) (hV k) k S) I G (Nat.max fn.ntmps n) L 1000) (qIR E (λk=>(hV k).st (szs k)) (λk S=>wN (szs k) (hV k) k S) I cdG (Nat.max fn.ntmps n) L 1000) 1 c (qAF E fn.results.toList),Ts x.1=x.2)(hP:∀k,1000<=k->L+1<=(hV k).ae.length)(p:qP E (qA E) Ts 0 ds d)(j:f<dU:=by decide):qA E f ds d:=by
 refine .inl ⟨j,⟨fn,hf⟩,λH g args z Z A hd=>?_⟩;have r:args.length=n:=by rw[hd.length,hn]
 have hs:=qGQ (sz:=Nat.max fn.ntmps n) z Z A hd r;obtain⟨m,p⟩:=p;cases m with
 |zero=>cases p
 | succ m=>
  have t:wp E (qA E) (Qf E Ts d m) (Ts 0) ds:=p;rw[←h0]at t;have hY:qJU (Lim.of H.next) none:=λy hy=>by cases hy
  have hO:qQA E (Lim.of H.next) H g (Qf E Ts d) (qKu E I none):=λm o S ρ ve lb g fr H κ h O=>qOJ he hI hY h O;have hR:=qLM (n0:=Lim.of H.next) (H0:=H) (g0:=g) (d:=d) he hI hG rfl rfl hT hP;have hj:=qAt (n0:=Lim.of H.next) (H0:=H) (g0:=g) (d:=d) he hO hR rfl hT (λk κ b hp=>cq _) m;obtain⟨e,fr1,H1,X,m1,_,S1,K,M,N,g1,h1,O⟩:=bB he hO hR hj c 1 _ .root m (vP _) _ _ _ _ _ _ _ hs t;obtain⟨U,v,g',hv,V,B,q,P,hk,C,F⟩:=qK5 (d:=d) (λd' W=>W) e S1 K M N g1 fr1 H1 h1 O;rw[←r]at X;have u:=vK.call he hf i X U hv;let w:zR:=λb=>if b<H.next then g b else g' b;have R:zR.le g' w:=by
   intro b k i;simp only[w];split
   ·rename_i j;rw[←F b j];exact i
   exact i
  refine⟨v,{H1 with next:=H1.next+1},w,u.raise,ja P,λb k i=>⟨(q b k i).1,dp (q b k i).2⟩,hk,C,?_,?_,?_,V.mono R⟩
  ·intro b k i;simp only[w];rw[bo (z b k (Z b k i)).2];exact i
  ·intro b k i;simp only[w]at i;split at i
   ·rename_i j;rw[←F b j]at i;exact B b k i
   exact B b k i
  intro b i;simp only[w];rw[bo i]
end
end Go.Am
