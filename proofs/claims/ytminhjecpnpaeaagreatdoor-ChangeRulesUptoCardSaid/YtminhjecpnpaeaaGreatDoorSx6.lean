/- Loops over functions in symbolic runs: the iterator's code runs in place, and so do the rounds and small callees. Conditions: none. -/
import Derived.Test.YtminhjecpnpaeaaGreatDoorSx4
set_option linter.unusedVariables false
set_option linter.unusedSimpArgs false
namespace Go.Am
open Go
def rK(t:T SV):Nat->List (Nat×SV)
 |0=>[]
 |n+1=>match t.get n with
  |some x=>(n,x)::rK t n
  |none=>rK t n
def qQP(l:List (Nat×SV)):T SV:=l.foldl (λt (p:Nat×SV)=>t.put p.1 (some p.2)) .leaf
def qAS:List SV->SV
 | [x]=>x
 |l=>.tup l
def qNV:Nat->St->Tree:=λ_ _=>.fail
abbrev qDx:=Oper->St->K1->Tree
def qLH(OP:qDx)(all:Array Oper):List Oper->St->(St->Tree)->Tree
 | [],S,κ=>κ S
 | o::h,S,κ=>
  qCG all o S
   (λS=>OP o S λy S=>match S.put o.dst y with
    |some S=>qLH OP all h S κ
    |none=>.fail)
   (λS=>match S.put o.dst (.tup [])with
    |some S=>qLH OP all h S κ
    |none=>.fail)
abbrev qPK:=Operand->Array Tmp->Code->Code->St->KC->Tree
def fV:qPK:=λ_ _ _ _ _ _=>.fail
def qAK(E:Env)(J:Nat->St->Tree)(OP:qDx)(RG:qPK):Nat->Code->St->KC->Tree
 |at_,.seq a b,S,κ=>qAK E J OP RG at_ a S (qLu (λS=>qAK E J OP RG (at_+nl a) b S κ) κ)
 |at_,.cond c a b,S,κ=>match rP S c with
  |some (.c (.bool true))=>qAK E J OP RG at_ a S κ
  |some (.c (.bool false))=>qAK E J OP RG (at_+nl a) b S κ
  |some (.v i)=>bif S.pureV i then .ite (.v i) (qAK E J OP RG at_ a (S.known i true) κ) (qAK E J OP RG (at_+nl a) b (S.known i false) κ)else .fail
  |_=>.fail
 |at_,.block id b,S,κ=>qAK E J OP RG at_ b S (cR id κ)
 |at_,.loop _,S,_=>J at_ S
 |at_,.scope b,S,κ=>qAK E J OP RG at_ b S κ
 |_,.region id ops draw,S,κ=>bif draw then sx E qNV 1 (.region id ops draw) S κ else qLH OP ops ops.toList S (κ .normal)
 |_,.rangeFunc f h a b,S,κ=>RG f h a b S κ
 |_,.skip,S,κ=>κ .normal S
 |_,.label _,S,κ=>κ .normal S
 |_,.ret,S,κ=>κ .ret S
 |_,.exit id,S,κ=>κ (.exit id) S
 |_,_,_,_=>.fail
abbrev qDL:=List (FuncId×Func×Code)
def tJ:qDL->FuncId->Option (Func×Code)
 | [],_=>none
 |(f,fn,c)::r,g=>bif Nat.beq f g then some (fn,c)else tJ r g
def qWo(E:Env)(I:qDL):qDx:=λo S κ=>match o.op with
 | .makeFunc (.func g) first cap=>match tJ I g with
  |some _=>match bO S first.toList,bO S cap.toList with
   |some a,some b=>κ (.fn (.func g) a b) S
   |_,_=>.fail
  |none=>vZ E o S κ
 |_=>vZ E o S κ
def qY6(E:Env)(I:qDL):Code->St->KC->Tree:=qAK E qNV (qWo E I) fV 1
def qFi(E:Env)(κ:List SV->St->Tree)(S:St)(acc:List SV):List ResultVar->Tree
 | []=>κ acc S
 |.tmp t::r=>match S.slots.get t with
  |some x=>qFi E κ S (acc++[x]) r
  |none=>.fail
 |.cell a t::r=>match S.slots.get a with
  |some p=>qEe E t p S λx S=>qFi E κ S (acc++[x]) r
  |none=>.fail
def qDq(sz:Nat)(κ:K1)(xs:List SV)(S:St):Tree:=match S.sav with
 |l::r=>κ (qAS xs) {S with slots:=qQP l,sz:=sz,sav:=r}
 | []=>.fail
def qYb(E:Env)(rs:List ResultVar)(sz:Nat)(κ:K1):KC:=λe S=>match e with
 |.normal=>qFi E (qDq sz κ) S [] rs
 |.ret=>qFi E (qDq sz κ) S [] rs
 |.exit _=>.fail
def qU2(E:Env)(I:qDL)(fn:Func)(c:Code)(h:List SV)(S:St)(κ:K1):Tree:=
 qY6 E I c {S with slots:=T.ofList .leaf 0 h,sz:=Nat.max fn.ntmps h.length,sav:=rK S.slots S.sz::S.sav} (qYb E fn.results.toList S.sz κ)
def qDn(sz:Nat):T SV->List Tmp->List SV->Option (T SV)
 |t,[],[]=>some t
 |t,p::h,x::xs=>bif Nat.ble (p+1) sz then qDn sz (t.put p (some x)) h xs else none
 |_,_,_=>none
structure Site where
 ps:List Tmp
 a:Code
 b:Code
 sz:Nat
 L:Nat
def qLG:AExit->Nat
 |.normal=>0
 |.ret=>1
 |.exit n=>n+2
def qBr:Option (Option Blk)->Bool
 |some (some (.loop 0 0))=>true
 |_=>false
def qIZ:Option (Option Blk)->Bool
 |some (some (.loop 1 0))=>true
 |_=>false
def qTB(Y:Site)(sz:Nat)(κ:K1):KC:=λe S=>
 bif qIZ S.blks[Y.L]? then qDq sz κ [.c (.bool (Nat.beq (qLG e) 0))] (S.setBlk Y.L (.loop (bif Nat.beq (qLG e) 0 then 0 else 2) (qLG e)))else .fail
def qTp(E:Env)(I:qDL)(Y:Site)(sz:Nat)(κ:K1):KC:=λe S=>match e with
 |.normal=>bif qBr S.blks[Y.L]? then qY6 E I Y.b (S.setBlk Y.L (.loop 1 0)) (qTB Y sz κ)else .fail
 |_=>.fail
def qIu(E:Env)(I:qDL)(Y:Site)(h:List SV)(S:St)(κ:K1):Tree:=
 bif qBr S.blks[Y.L]? then
  match S.sav with
  |l::r=>match qDn Y.sz (qQP l) Y.ps h with
   |some sl=>qY6 E I Y.a {S with slots:=sl,sz:=Y.sz,sav:=rK S.slots S.sz::l::r} (qTp E I Y S.sz κ)
   |none=>.fail
  | []=>.fail
 else .fail
def qLM(E:Env)(I:qDL)(Y:Option Site):qDx:=λo S κ=>match o.op with
 | .call c=>match c.callee,bO S c.args.toList with
  | .value f,some h=>match rP S f with
   |some (.yld L)=>match Y with
    |some Y=>bif Nat.beq L Y.L&&Nat.beq Y.ps.length h.length then qIu E I Y h S κ else .fail
    |none=>.fail
   |some (.fn (.func g) first cap)=>match tJ I g with
    |some (fn,x)=>qU2 E I fn x (first++h++cap) S κ
    |none=>vZ E o S κ
   |_=>vZ E o S κ
  |_,_=>vZ E o S κ
 |_=>qWo E I o S κ
def qAs:Nat->AExit
 |0=>.normal
 |1=>.ret
 |n+2=>.exit n
def qQB:Option (Option Blk)->Option (Nat×Nat)
 |some (some (.loop st h))=>some (st,h)
 |_=>none
def noIts(l:List (Option Blk)):List (Option Blk):=l.map λb=>match b with
 |some (.tcells _ _)=>none
 |x=>x
def qKS(Y:Site)(κ:KC):KC:=λe S=>match e with
 |.exit _=>.fail
 |_=>match S.sav,qQB S.blks[Y.L]? with
  |l::r,some (st,h)=>bif Nat.beq st 1 then .fail else bif (noIts (S.blks.set Y.L none)).all fE then κ (qAs h) {S with slots:=qQP l,sz:=Y.sz,sav:=r,blks:=noIts (S.blks.set Y.L none)}else .fail
  |_,_=>.fail
def iV(E:Env)(J:Nat->St->Tree)(I:qDL)(G:FuncId)(sz L at0:Nat):qPK:=λf h a b S κ=>
 match rP S f,tJ I G with
 |some (.fn (.func g) first cap),some (fn,x)=>
  bif Nat.beq g G&&Nat.beq S.blks.length L&&Nat.beq S.sz sz&&S.blks.all fE&&fn.results.toList.isEmpty then qAK E J (qLM E I (some ⟨h.toList,a,b,sz,L⟩)) fV at0 x {S with slots:=T.ofList .leaf 0 (first++[SV.yld L]++cap),sz:=Nat.max fn.ntmps (first++[SV.yld L]++cap).length,sav:=rK S.slots S.sz::S.sav,blks:=S.blks++[some (.loop 0 0)]} (qKS ⟨h.toList,a,b,sz,L⟩ κ)
  else .fail
 |_,_=>.fail
def j6(E:Env)(P:Nat->St)(J:Nat->St->Tree)(OP:qDx)(RG:qPK)(RH:Array Tmp->Code->Code->KC->List (Nat×Tree)):Nat->Code->KC->List (Nat×Tree)
 |at_,.seq a b,κ=>j6 E P J OP RG RH at_ a (qLu (λS=>qAK E J OP RG (at_+nl a) b S κ) κ)++j6 E P J OP RG RH (at_+nl a) b κ
 |at_,.cond _ a b,κ=>j6 E P J OP RG RH at_ a κ++j6 E P J OP RG RH (at_+nl a) b κ
 |at_,.block id b,κ=>j6 E P J OP RG RH at_ b (cR id κ)
 |at_,.loop b,κ=>(at_,qAK E J OP RG (at_+1) b (P at_) (iF J at_ κ))::j6 E P J OP RG RH (at_+1) b (iF J at_ κ)
 |at_,.scope b,κ=>j6 E P J OP RG RH at_ b κ
 |_,.rangeFunc _ h a b,κ=>RH h a b κ
 |_,_,_=>[]
def qIx(E:Env)(P:Nat->St)(J:Nat->St->Tree)(I:qDL)(x:Code)(sz L at0:Nat):Array Tmp->Code->Code->KC->List (Nat×Tree):=λh a b κ=>
 j6 E P J (qLM E I (some ⟨h.toList,a,b,sz,L⟩)) fV (λ_ _ _ _=>[]) at0 x (qKS ⟨h.toList,a,b,sz,L⟩ κ)
end Go.Am
namespace Go.Am
open Go
theorem qAg{t:T SV}:∀{n u:Nat} {x:SV},(u,x)∈rK t n->t.get u=some x
 |0,_,_,h=>by cases h
 | n+1,u,x,h=>by
  simp only[rK]at h;split at h
  ·rename_i y b;rcases List.mem_cons.1 h with e|h
   ·cases e;exact b
   exact qAg h
  exact qAg h
theorem qFx{l:List (Nat×SV)}{t:Nat}{x:SV}(h:(qQP l).get t=some x):(t,x)∈l:=by
 rcases qCL l .leaf h with h|h
 ·exact h
 cases h
theorem wO.raise{E:Env}{l:Nat}{args:List Value}{H H':AH}{v:Value}(h:wO E l args H v H'):wO E l args H v {H' with next:=H'.next+1}:=by
 intro σ w y L lo o hv q j i p c cs;obtain⟨e,w',v',g1,s,g3⟩:=h σ w y L lo o hv (λb t r=>q b t (Nat.lt_succ_of_lt r)) j i p c cs;have st:Step E σ H w e {H' with next:=H'.next+1} w':=by
  refine⟨⟨s.hr.objs,s.hr.sep,s.hr.glob,λb k x=>?_⟩,Nat.le_succ_of_le s.next,λb x=>?_,s.size,s.low,s.tape,s.os,s.output,s.frame,s.origin,s.old,s.keep,s.born⟩
  ·exact⟨(s.hr.wf b k x).1,Nat.lt_succ_of_lt (s.hr.wf b k x).2⟩
  refine s.ext b ?_;rcases x with x|x
  ·exact .inl x
  exact .inr (Nat.le_of_succ_le x)
 exact⟨e,w',v',g1,st,g3⟩
theorem mO.of_round{E:Env}{fr:Fr}{o:Oper}{H H':AH}{l:Nat}{args:List Value}{v:Value}(h:vT E fr o H=some (.round l args,H))(b:wO E l args H v H')(x:H.next<H'.next):mO E fr o H v H':=by
 refine⟨Nat.le_of_lt x,[{f:=l,args:=args,H:=H,v:=v,H':=H',rnd:=true}],⟨⟨x,b⟩,lR _,trivial⟩,λa h=>?_,λih y=>?_⟩
 ·simp only[List.mem_singleton]at h;subst h;exact lR _
 have:=y _ (List.mem_singleton.2 rfl);simp only[jL.cmd]at this;simp only[vL,h];rw[this]
section
variable{E:Env}{n0:Lim}{H0:AH}{g0:zB}{S:St}{ρ:List D}{ve:Nat->Value}{lb:Nat->Nat}{g:zB}{fr:Fr}{H:AH}{Q:Res1->Prop}{HS:FuncId->List D->D->Prop}
theorem SR.refr(h:SR E n0 H0 g0 S ρ ve lb g fr H){n1:Lim}(U:n1.n=n0.n)(R:n1.K=n0.K)(P:n1.F.length<=S.blks.length/\∀k a,n1.F[k]? = some a->lb k=a)(e:(n1.lfr=n0.lfr/\n1.lps=n0.lps/\n1.las=n0.las/\n1.lbd=n0.lbd)∨∀(b:Nat) (x:Blk),S.blks[b]? = some (some x)->x.isL=false){S':St}(z:S'.sts=S.sts)(w:S'.blks=S.blks){y:Fr}(f1:y.sz=S'.sz)(f2:y.rd=n1.rd)(f3:∀t x,S'.slots.get t=some x->x.bd S.n S.blks.length/\y.t.get t=some (x.val ve lb))(O:bU n1.frs S'.sav S.n S.blks.length ve lb):SR E n1 H0 g0 S' ρ ve lb g y H:=by
 obtain⟨n,K,F,frs,rd,lfr,lps,las,lbd⟩:=n1;obtain⟨n',K',F',N,X,C,A,L,G⟩:=n0;simp only at U R P e f2 O;subst U R;obtain⟨W,slots,blks,sz,sav⟩:=S;obtain⟨r,j,p,V,u⟩:=S';simp only at z w;subst z w;refine {len:=h.len,wf:=h.wf,mem:=h.mem,base:=h.base,fix:=P,vars:=?_,blks:=?_,sepLG:=h.sepLG,sepFG:=h.sepFG,sepL:=h.sepL,sepF:=h.sepF,sepX:=h.sepX,sz:=f1,rd:=f2,slots:=f3,sav:=O,keep:=h.keep,gk:=h.gk,low:=h.low,tab:=h.tab}
 ·intro i s hs;have:=h.vars i s hs;obtain⟨k,oo⟩:=s;refine⟨this.1,?_⟩;have M:=this.2;cases k<;>try exact M
  rcases M with q|⟨B,l,cs,vs,el,rt,sz,es,q⟩|⟨B,es,ck,rt,ks,dd,q⟩
  ·exact .inl q
  ·exact .inr (.inl ⟨B,l,cs,vs,el,rt,sz,es,{q with rt:=q.rt}⟩)
  exact .inr (.inr ⟨B,es,ck,rt,ks,dd,{q with rt:=q.rt}⟩)
 intro b x o;obtain⟨q1,c⟩:=h.blks b x o;refine⟨q1,?_⟩;rcases e with⟨rfl,rfl,rfl,rfl⟩|e
 ·cases x with
  |loop st pd=>exact c
  |tcells _ _=>exact c
  |cells _=>exact c
  |whole _ _=>exact c
 obtain⟨el,rt,cs,r1,r2,Z⟩:=c.cells (e b x o);exact .ofCells (e b x o) ⟨el,rt,cs,r1,r2,Z⟩
theorem SR.raise(h:SR E n0 H0 g0 S ρ ve lb g fr H):SR E n0 H0 g0 S ρ ve lb g fr {H with next:=H.next+1}:=
 h.heap (H':={H with next:=H.next+1}) (λ_ _=>rfl) (λb k x=>⟨(h.wf b k x).1,Nat.lt_succ_of_lt (h.wf b k x).2⟩) (Nat.le_succ _) h.low
theorem bU.push(h:SR E n0 H0 g0 S ρ ve lb g fr H):bU (fr::n0.frs) (rK S.slots S.sz::S.sav) S.n S.blks.length ve lb:=by
 intro j l c t x e;cases j with
 |zero=>simp only[List.getElem?_cons_zero,oI]at c;subst c;obtain⟨b,y⟩:=h.slots t x (qAg e);exact⟨b,fr,rfl,y⟩
 |succ j=>obtain⟨b,f,y,i⟩:=h.sav j l (by simpa using c) t x e;exact⟨b,f,by simpa using y,i⟩
def Kq(E:Env)(n0:Lim)(H0:AH)(g0:zB)(Q:Res1->Prop)(κ:KC):pB:=λe fr H=>∃S ρ ve lb g,SR E n0 H0 g0 S ρ ve lb g fr H/\wp E (Holds E) Q (κ e S) ρ
theorem qTZ(he:EOk E){c:Code}{κ:KC}(h:SR E n0 H0 g0 S ρ ve lb g fr H)(x:wp E (Holds E) Q (sx E qNV 1 c S κ) ρ):Fin E c (Kq E n0 H0 g0 Q κ) fr H:=by refine dL (c0:=c) (κ0:=κ) (K0:=Kq E n0 H0 g0 Q κ) (J:=qNV) he (λk b κ K y S ρ ve lb g fr H h x=>by cases x) c 1 κ (Kq E n0 H0 g0 Q κ) .root ?_ S ρ ve lb g fr H h x;intro e S ρ ve lb g fr H h x;exact⟨S,ρ,ve,lb,g,h,x⟩
def oZ(E:Env)(HS:FuncId->List D->D->Prop)(Q:Res1->Prop)(n0:Lim)(H0:AH)(g0:zB)(fr:Fr)(H:AH)(o:Oper)(κ:K1):Prop:=
 ∃y S' ρ' h x g' H',SR E n0 H0 g0 S' ρ' h x g' fr H'/\y.bd S'.n S'.blks.length/\wp E HS Q (κ y S') ρ'/\mO E fr o H (y.val h x) H'
theorem jS.toR{c:Bool}{o:Oper}{κ:K1}(h:jS c E HS Q n0 H0 g0 fr H o κ):oZ E HS Q n0 H0 g0 fr H o κ:=by obtain⟨y,S',ρ',x,b,g',H',j,i,h3,e,_⟩:=h;exact⟨y,S',ρ',x,b,g',H',j,i,h3,e⟩
theorem qBj{κ:List SV->St->Tree}:∀(rs:List ResultVar) (acc:List SV) {S:St} {ρ:List D} {ve:Nat->Value} {lb:Nat->Nat} {g:zB} {fr:Fr} {H:AH},SR E n0 H0 g0 S ρ ve lb g fr H->SV.bds S.n S.blks.length acc->wp E HS Q (qFi E κ S acc rs) ρ->
  ∃S' ρ' b g' vs xs,SR E n0 H0 g0 S' ρ' b lb g' fr H/\vI E fr H rs=some vs/\SV.bds S'.n S'.blks.length xs/\SV.vals b lb xs=SV.vals ve lb acc++vs/\wp E HS Q (κ xs S') ρ'
 | [],acc,S,ρ,ve,lb,g,fr,H,h,e,c=>⟨S,ρ,ve,g,[],acc,h,rfl,e,by rw[List.append_nil],c⟩
 | .tmp t::rs,acc,S,ρ,ve,lb,g,fr,H,h,e,c=>by
  simp only[qFi]at c
  split at c
  ·rename_i x F
   obtain⟨z,w⟩:=h.slots t x F
   obtain⟨S',ρ',b,g',vs,xs,r,q,o,i,l⟩:=qBj rs (acc++[x]) h (by
    rw[SV.bds_iff]at e ⊢
    intro u hu
    rcases List.mem_append.1 hu with hu|hu
    ·exact e u hu
    simp only[List.mem_singleton]at hu;subst hu;exact z) c
   refine⟨S',ρ',b,g',x.val ve lb::vs,xs,r,by simp only[vI,w,q,Option.map_some],o,?_,l⟩
   rw[yH]at i
   simpa[SV.vals]using i
  cases c
 | .cell a t::rs,acc,S,ρ,ve,lb,g,fr,H,h,e,c=>by
  simp only[qFi]at c
  split at c
  ·rename_i p G
   obtain⟨z,w⟩:=h.slots a p G
   obtain⟨y,L,C,j,g1,B,K,A,s1,s2⟩:=qBl h z c
   obtain⟨S',ρ',b,g',vs,xs,r,q,o,i,l⟩:=qBj rs (acc++[y]) K (by
    have k:=B.bds e
    rw[SV.bds_iff]at k ⊢
    intro u hu
    rcases List.mem_append.1 hu with hu|hu
    ·exact k u hu
    simp only[List.mem_singleton]at hu;subst hu;exact s1) A
   refine⟨S',ρ',b,g',y.val j lb::vs,xs,r,by simp only[vI,w,Option.bind_some,s2,q,Option.map_some],o,?_,l⟩
   rw[yH]at i
   have:SV.vals j lb acc=SV.vals ve lb acc:=SV.vals_congr B.ve (λ_ _=>rfl) e
   rw[this]at i
   simpa[SV.vals]using i
  cases c
theorem qF8{n1:Lim}{b:St}{y:List D}{i:Nat->Value}{c:Nat->Nat}{g1:zB}{fr1:Fr}{H1:AH}(h:SR E n1 H0 g0 b y i c g1 fr1 H1){sz:Nat}{κ:K1}{xs:List SV}(L:SV.bds b.n b.blks.length xs)(K:n0.n=n1.n)(G:n0.K=n1.K)(F:n0.F.length<=b.blks.length/\∀k a,n0.F[k]? = some a->c k=a)(C:n0.lfr=n1.lfr/\n0.lps=n1.lps/\n0.las=n1.las/\n0.lbd=n1.lbd)(z:n1.frs=fr::n0.frs)(f1:fr.sz=sz)(f2:fr.rd=n0.rd)(o:wp E HS Q (qDq sz κ xs b) y):∃S',S'.n=b.n/\S'.blks=b.blks/\SR E n0 H0 g0 S' y i c g1 fr H1/\wp E HS Q (κ (qAS xs) S') y:=by
 unfold qDq at o;split at o;case h_2=>cases o
 rename_i l r w;refine⟨{b with slots:=qQP l,sz:=sz,sav:=r},rfl,rfl,h.refr (S':={b with slots:=qQP l,sz:=sz,sav:=r}) K G F (.inl C) rfl rfl f1 f2 ?_ ?_,o⟩
 ·intro t x u;obtain⟨q,f,e,p⟩:=h.sav 0 l (by rw[w];rfl) t x (qFx u);rw[z]at e;simp only[List.getElem?_cons_zero,oI]at e;subst e;exact⟨q,p⟩
 intro j A B t x u;obtain⟨q,f,e,p⟩:=h.sav (j+1) A (by rw[w];simpa using B) t x u;rw[z]at e;exact⟨q,f,by simpa using e,p⟩
theorem qD9{ve:Nat->Value}{lb:Nat->Nat}(xs:List SV){vs:List Value}(h:SV.vals ve lb xs=vs):(match some vs with|some [v]=>some v|some vs=>some (Value.tuple ⟨vs⟩)|none=>none)=some ((qAS xs).val ve lb):=by
 subst h
 match xs with
 | []=>rfl
 | [x]=>rfl
 |x::y::r=>rfl
theorem qGR{n m:Nat}(xs:List SV)(h:SV.bds n m xs):(qAS xs).bd n m:=by
 match xs,h with
 | [],h=>exact h
 | [x],h=>exact h.1
 |x::y::r,h=>exact h
theorem aO{ve:Nat->Value}{lb:Nat->Nat}{n m:Nat}{args:List SV}(y:SV.bds n m args):∀t x,(T.ofList .leaf 0 args).get t=some x->x.bd n m/\(T.ofList .leaf 0 (SV.vals ve lb args)).get t=some (x.val ve lb):=by intro t x h;rw[dW]at h;rw[SV.bds_iff]at y;refine⟨y x (List.mem_of_getElem? h),?_⟩;rw[rI,SV.vals_map,List.getElem?_map,h];rfl
end
theorem Fin.mono{E:Env}{c:Code}{K K':pB}{fr:Fr}{H:AH}(h:Fin E c K fr H)(x:∀e fr H,K e fr H->K' e fr H):Fin E c K' fr H:=by obtain⟨e,fr1,H1,b,y⟩:=h;exact⟨e,fr1,H1,b,x _ _ _ y⟩
def uP(E:Env)(n0:Lim)(H0:AH)(g0:zB)(QQ:Nat->Res1->Prop)(OP:qDx):Prop:=
 ∀m o S ρ ve lb g fr H κ,SR E n0 H0 g0 S ρ ve lb g fr H->wp E (Holds E) (QQ m) (OP o S κ) ρ->oZ E (Holds E) (QQ m) n0 H0 g0 fr H o κ
theorem qFp{E:Env}{n0:Lim}{H0:AH}{g0:zB}{QQ:Nat->Res1->Prop}{OP:qDx}(u:uP E n0 H0 g0 QQ OP)(m:Nat){all:Array Oper}:∀(k:List Oper) (i:Nat) {S:St} {ρ:List D} {ve:Nat->Value} {lb:Nat->Nat} {g:zB} {fr:Fr} {H:AH} {κ:St->Tree},SR E n0 H0 g0 S ρ ve lb g fr H->wp E (Holds E) (QQ m) (qLH OP all k S κ) ρ->
  ∃S' ρ' c e g' b H',SR E n0 H0 g0 S' ρ' c e g' b H'/\wp E (Holds E) (QQ m) (κ S') ρ'/\yW E all false k i fr H b H'
 | [],i,S,ρ,ve,lb,g,fr,H,κ,h,x=>⟨S,ρ,ve,lb,g,fr,H,h,x,.nil⟩
 | o::k,i,S,ρ,ve,lb,g,fr,H,κ,h,x=>by
  simp only[qLH]at x
  obtain⟨K,z,x⟩:=qHh h x
  rcases x with⟨t,x⟩|⟨t,x⟩
  ·obtain⟨y,G,ρ2,ve2,A,g2,H2,F,C,x,B⟩:=u m _ _ _ _ _ _ _ _ _ z x
   simp only at x
   split at x
   ·rename_i S3 r
    obtain⟨w,j,h3⟩:=uY F C r
    obtain⟨S',ρ',c,e,g',b,H',q,p,l⟩:=qFp u m k (i+1) h3 x
    exact⟨S',ρ',c,e,g',b,H',q,p,.cons t B j l⟩
   cases x
  split at x
  ·rename_i S3 r
   obtain⟨w,j,h3⟩:=uY z (y:=.tup []) trivial r
   obtain⟨S',ρ',c,e,g',b,H',q,p,l⟩:=qFp u m k (i+1) h3 x
   exact⟨S',ρ',c,e,g',b,H',q,p,.skipped t j l⟩
  cases x
def Kt(E:Env)(n0:Lim)(H0:AH)(g0:zB)(QQ:Nat->Res1->Prop)(n:Nat)(κ:KC):pB:=λe fr H=>∃m,m<=n/\Kq E n0 H0 g0 (QQ m) κ e fr H
inductive Place (E:Env) (J:Nat->St->Tree) (OP:qDx) (RG:qPK) (at0:Nat) (c0:Code) (κ0:KC):Nat->Code->KC->Prop
 |root:Place E J OP RG at0 c0 κ0 at0 c0 κ0
 |seqL {n:Nat} {a b:Code} {κ:KC} (h:Place E J OP RG at0 c0 κ0 n (.seq a b) κ):Place E J OP RG at0 c0 κ0 n a (qLu (λS=>qAK E J OP RG (n+nl a) b S κ) κ)
 |seqR {n:Nat} {a b:Code} {κ:KC} (h:Place E J OP RG at0 c0 κ0 n (.seq a b) κ):Place E J OP RG at0 c0 κ0 (n+nl a) b κ
 |condL {n:Nat} {c:Operand} {a b:Code} {κ:KC} (h:Place E J OP RG at0 c0 κ0 n (.cond c a b) κ):Place E J OP RG at0 c0 κ0 n a κ
 |condR {n:Nat} {c:Operand} {a b:Code} {κ:KC} (h:Place E J OP RG at0 c0 κ0 n (.cond c a b) κ):Place E J OP RG at0 c0 κ0 (n+nl a) b κ
 |block {n id:Nat} {b:Code} {κ:KC} (h:Place E J OP RG at0 c0 κ0 n (.block id b) κ):Place E J OP RG at0 c0 κ0 n b (cR id κ)
 |loop {n:Nat} {b:Code} {κ:KC} (h:Place E J OP RG at0 c0 κ0 n (.loop b) κ):Place E J OP RG at0 c0 κ0 (n+1) b (iF J n κ)
 |scope {n:Nat} {b:Code} {κ:KC} (h:Place E J OP RG at0 c0 κ0 n (.scope b) κ):Place E J OP RG at0 c0 κ0 n b κ
section
variable{E:Env}{n0:Lim}{H0:AH}{g0:zB}{QQ:Nat->Res1->Prop}{J:Nat->St->Tree}{OP:qDx}{RG:qPK}{at0:Nat}{c0:Code}{κ0:KC}
theorem Kt.mono{n x:Nat}(y:n<=x){κ:KC}:∀e fr H,Kt E n0 H0 g0 QQ n κ e fr H->Kt E n0 H0 g0 QQ x κ e fr H:=by rintro e fr H ⟨m,hm,h⟩;exact⟨m,lT hm y,h⟩
theorem qEk{P:Nat->St}{RH:Array Tmp->Code->Code->KC->List (Nat×Tree)}{n:Nat}{c:Code}{κ:KC}(y:Place E J OP RG at0 c0 κ0 n c κ):∀x∈j6 E P J OP RG RH n c κ,x∈j6 E P J OP RG RH at0 c0 κ0:=by
 induction y with
 |root=>exact λx h=>h
 |seqL y ih=>exact λx h=>ih x (by simp only[j6];exact List.mem_append_left _ h)
 |seqR y ih=>exact λx h=>ih x (by simp only[j6];exact List.mem_append_right _ h)
 |condL y ih=>exact λx h=>ih x (by simp only[j6];exact List.mem_append_left _ h)
 |condR y ih=>exact λx h=>ih x (by simp only[j6];exact List.mem_append_right _ h)
 |block y ih=>exact λx h=>ih x (by simp only[j6];exact h)
 |loop y ih=>exact λx h=>ih x (by simp only[j6];exact mC _ h)
 |scope y ih=>exact λx h=>ih x (by simp only[j6];exact h)
def qGb(E:Env)(n0:Lim)(H0:AH)(g0:zB)(QQ:Nat->Res1->Prop)(J:Nat->St->Tree)(OP:qDx)(RG:qPK)(at0:Nat)(c0:Code)(κ0:KC)(n:Nat):Prop:=
 ∀k b κ,Place E J OP RG at0 c0 κ0 k (.loop b) κ->∀S ρ ve lb g fr H,SR E n0 H0 g0 S ρ ve lb g fr H->wp E (Holds E) (QQ n) (J k S) ρ->Fin E (.loop b) (Kt E n0 H0 g0 QQ n κ) fr H
def lQ(E:Env)(n0:Lim)(H0:AH)(g0:zB)(QQ:Nat->Res1->Prop)(J:Nat->St->Tree)(OP:qDx)(RG:qPK)(at0:Nat)(c0:Code)(κ0:KC):Prop:=
 ∀k f h a b κ,Place E J OP RG at0 c0 κ0 k (.rangeFunc f h a b) κ->∀n S ρ ve lb g fr H,SR E n0 H0 g0 S ρ ve lb g fr H->wp E (Holds E) (QQ n) (RG f h a b S κ) ρ->Fin E (.rangeFunc f h a b) (Kt E n0 H0 g0 QQ n κ) fr H
theorem rV(he:EOk E)(F:uP E n0 H0 g0 QQ OP)(C:lQ E n0 H0 g0 QQ J OP RG at0 c0 κ0){n:Nat}(B:∀m,m<=n->qGb E n0 H0 g0 QQ J OP RG at0 c0 κ0 m):
  ∀(c:Code) (k:Nat) (κ:KC),Place E J OP RG at0 c0 κ0 k c κ->∀m,m<=n->∀S ρ ve lb g fr H,SR E n0 H0 g0 S ρ ve lb g fr H->wp E (Holds E) (QQ m) (qAK E J OP RG k c S κ) ρ->Fin E c (Kt E n0 H0 g0 QQ m κ) fr H
 |.seq a b,k,κ,j,m,hm,S,ρ,ve,lb,g,fr,H,h,x=>by
  refine qKJ ((rV he F C B a k _ j.seqL m hm S ρ ve lb g fr H h x).mono ?_)
  rintro e fr1 H1 ⟨u,o,z,p,q,r,g1,w,y⟩
  cases e with
  |normal=>exact(rV he F C B b _ κ j.seqR u (lT o hm) z p q r g1 fr1 H1 w y).mono (Kt.mono o)
  |exit id=>exact⟨u,o,z,p,q,r,g1,w,y⟩
  |ret=>exact⟨u,o,z,p,q,r,g1,w,y⟩
 | .cond c a b,k,κ,j,m,hm,S,ρ,ve,lb,g,fr,H,h,x=>by
  simp only[qAK]at x
  have Tt:∀S',SR E n0 H0 g0 S' ρ ve lb g fr H->ev E fr c=some (.bool true)->wp E (Holds E) (QQ m) (qAK E J OP RG k a S' κ) ρ->Fin E (.cond c a b) (Kt E n0 H0 g0 QQ m κ) fr H:=by
   intro S' O hv x
   obtain⟨e,fr1,H1,K,G⟩:=rV he F C B a k κ j.condL m hm S' ρ ve lb g fr H O x
   exact⟨e,fr1,H1,K.condT he hv,G⟩
  have R:∀S',SR E n0 H0 g0 S' ρ ve lb g fr H->ev E fr c=some (.bool false)->wp E (Holds E) (QQ m) (qAK E J OP RG (k+nl a) b S' κ) ρ->Fin E (.cond c a b) (Kt E n0 H0 g0 QQ m κ) fr H:=by
   intro S' O hv x
   obtain⟨e,fr1,H1,K,G⟩:=rV he F C B b (k+nl a) κ j.condR m hm S' ρ ve lb g fr H O x
   exact⟨e,fr1,H1,K.condF he hv,G⟩
  split at x
  ·rename_i hv;exact Tt S h (zJ (E:=E) h hv).2 x
  ·rename_i hv;exact R S h (zJ (E:=E) h hv).2 x
  ·rename_i i hv
   obtain⟨N,x⟩:=jC x
   obtain⟨t,hd,x⟩:=qBq x
   have A:=(zJ (E:=E) h hv).2
   simp only[SV.val,uK h.toSM N hd]at A
   cases t with
   |true=>exact Tt _ (mB h N hd) A x
   |false=>exact R _ (mB h N hd) A x
  cases x
 | .block id b,k,κ,j,m,hm,S,ρ,ve,lb,g,fr,H,h,x=>by
  refine qEA ((rV he F C B b k _ j.block m hm S ρ ve lb g fr H h x).mono ?_)
  rintro e fr1 H1 ⟨u,o,z,p,q,r,g1,w,y⟩
  cases e with
  |normal=>exact⟨u,o,z,p,q,r,g1,w,y⟩
  |ret=>exact⟨u,o,z,p,q,r,g1,w,y⟩
  | exit W=>
   simp only[cR,qY]at y
   simp only[bA]
   split
   ·rename_i e;rw[if_pos e]at y
    exact⟨u,o,z,p,q,r,g1,w,y⟩
   rename_i e;rw[if_neg e]at y
   exact⟨u,o,z,p,q,r,g1,w,y⟩
 |.loop b,k,κ,j,m,hm,S,ρ,ve,lb,g,fr,H,h,x=>B m hm k b κ j S ρ ve lb g fr H h x
 |.scope b,k,κ,j,m,hm,S,ρ,ve,lb,g,fr,H,h,x=>qEz (rV he F C B b k κ j.scope m hm S ρ ve lb g fr H h x)
 | .region id ops draw,k,κ,j,m,hm,S,ρ,ve,lb,g,fr,H,h,x=>by
  cases draw with
  |true=>
   have x:wp E (Holds E) (QQ m) (sx E qNV 1 (.region id ops true) S κ) ρ:=x
   exact(qTZ he h x).mono λe fr1 H1 X=>⟨m,lR _,X⟩
  |false=>
   have x:wp E (Holds E) (QQ m) (qLH OP ops ops.toList S (κ .normal)) ρ:=x
   obtain⟨S',ρ',L,M,g',P,H',K,G,U⟩:=qFp F m ops.toList 0 h x
   exact⟨_,P,H',.region he U,m,lR _,S',ρ',L,M,g',K,G⟩
 |.skip,k,κ,j,m,hm,S,ρ,ve,lb,g,fr,H,h,x=>⟨_,fr,H,.skip,m,lR _,S,ρ,ve,lb,g,h,x⟩
 |.label l,k,κ,j,m,hm,S,ρ,ve,lb,g,fr,H,h,x=>⟨_,fr,H,.label,m,lR _,S,ρ,ve,lb,g,h,x⟩
 |.ret,k,κ,j,m,hm,S,ρ,ve,lb,g,fr,H,h,x=>⟨_,fr,H,.ret,m,lR _,S,ρ,ve,lb,g,h,x⟩
 |.exit id,k,κ,j,m,hm,S,ρ,ve,lb,g,fr,H,h,x=>⟨_,fr,H,.exit,m,lR _,S,ρ,ve,lb,g,h,x⟩
 |.rangeFunc f V a b,k,κ,j,m,hm,S,ρ,ve,lb,g,fr,H,h,x=>C k f V a b κ j m S ρ ve lb g fr H h x
 |.goto _,k,κ,j,m,hm,S,ρ,ve,lb,g,fr,H,h,x=>by cases x
 |.refuse _,k,κ,j,m,hm,S,ρ,ve,lb,g,fr,H,h,x=>by cases x
end
section
variable{E:Env}{n0:Lim}{H0:AH}{g0:zB}{S:St}{ρ:List D}{ve:Nat->Value}{lb:Nat->Nat}{g:zB}{fr:Fr}{H:AH}{Q:Res1->Prop}{HS:FuncId->List D->D->Prop}{I:qDL}
theorem qNS{o:Oper}{κ:K1}(h:SR E n0 H0 g0 S ρ ve lb g fr H)(y:wp E (Holds E) Q (qWo E I o S κ) ρ):oZ E (Holds E) Q n0 H0 g0 fr H o κ:=by
 have x:wp E (Holds E) Q (vZ E o S κ) ρ->oZ E (Holds E) Q n0 H0 g0 fr H o κ:=λy=>(eU h y).toR;unfold qWo at y;split at y;case h_2=>exact x y
 rename_i j first cap c
 split at y;case h_2=>exact x y
 split at y;case h_2=>cases y
 rename_i a b i e;obtain⟨a1,a2⟩:=rF (E:=E) h i;obtain⟨l,k⟩:=rF (E:=E) h e;refine⟨.fn (.func j) a b,S,ρ,ve,lb,g,H,h,⟨a1,l⟩,y,.of_val (lR _) ?_⟩;unfold vT;rw[c];simp only[a2,k,one,rD,if_true,Option.map_some,SV.val]
theorem qIm(he:EOk E){c:Code}{κ:KC}(h:SR E n0 H0 g0 S ρ ve lb g fr H)(x:wp E (Holds E) Q (qY6 E I c S κ) ρ):Fin E c (Kq E n0 H0 g0 Q κ) fr H:=by
 have i:∀m,m<=0->qGb E n0 H0 g0 (λ_=>Q) qNV (qWo E I) fV 1 c κ m:=λm _ k b κ l S ρ ve lb g fr H h x=>by cases x
 have j:lQ E n0 H0 g0 (λ_=>Q) qNV (qWo E I) fV 1 c κ:=λ_ _ _ _ _ _ _ _ _ _ _ _ _ _ _ _ x=>by cases x
 refine(rV (QQ:=λ_=>Q) he (λm o S ρ ve lb g fr H κ h x=>qNS h x) j i c 1 κ .root 0 (lR _) S ρ ve lb g fr H h x).mono ?_;rintro e fr1 H1 ⟨m,_,y⟩;exact y
theorem qU1(he:EOk E)(h:SR E n0 H0 g0 S ρ ve lb g fr H){B:FuncId}{fn:Func}{c:Code}{args:List SV}{o:Oper}{κ:K1}(P:E.funcs.get B=some fn)(A:fn.body=some c)(j:SV.bds S.n S.blks.length args)(R:vT E fr o H=some (.enter B (SV.vals ve lb args),H))(x:wp E (Holds E) Q (qU2 E I fn c args S κ) ρ):oZ E (Holds E) Q n0 H0 g0 fr H o κ:=by
 unfold qU2 at x;have p:(SV.vals ve lb args).length=args.length:=by rw[SV.vals_map,List.length_map]
 have W:SR E {n0 with frs:=fr::n0.frs,rd:=false,F:=(List.range S.blks.length).map lb} H0 g0 {S with slots:=T.ofList .leaf 0 args,sz:=Nat.max fn.ntmps args.length,sav:=rK S.slots S.sz::S.sav} ρ ve lb g ⟨Nat.max fn.ntmps (SV.vals ve lb args).length,false,T.ofList .leaf 0 (SV.vals ve lb args)⟩ H:=by refine h.refr (n1:={n0 with frs:=fr::n0.frs,rd:=false,F:=(List.range S.blks.length).map lb}) (S':={S with slots:=T.ofList .leaf 0 args,sz:=Nat.max fn.ntmps args.length,sav:=rK S.slots S.sz::S.sav}) rfl rfl ⟨by simp,λk a r=>?_⟩ (.inl ⟨rfl,rfl,rfl,rfl⟩) rfl rfl (by simp only[p]) rfl (aO j) (bU.push h);rw[List.getElem?_map,Option.map_eq_some_iff]at r;obtain⟨q,O,rfl⟩:=r;obtain⟨q1,K⟩:=gI O;rw[List.getElem_range]at K;rw[K]
 obtain⟨e,fr1,H1,L,Z,t,M,l,g1,V,x⟩:=qIm he W x;have y:(e=.normal∨e=.ret)->wp E (Holds E) Q (qFi E (qDq S.sz κ) Z [] fn.results.toList) t->oZ E (Holds E) Q n0 H0 g0 fr H o κ:=by
  intro z x;obtain⟨X,ρ2,ve2,g2,vs,xs,h3,N,G,C,x⟩:=qBj fn.results.toList [] V trivial x;simp only[SV.vals,List.nil_append]at C;have b:=h3.fix;obtain⟨S3,s1,s2,U,x⟩:=qF8 (n0:=n0) (fr:=fr) h3 G rfl rfl ⟨(by have:S.blks.length<=X.blks.length:=(by have:=b.1;simpa using this);exact lT h.fix.1 this),λk a r=>(by have u:k<S.blks.length:=Nat.lt_of_lt_of_le (gI r).1 h.fix.1;rw[b.2 k (lb k) (by rw[List.getElem?_map,List.getElem?_range u];rfl)];exact h.fix.2 k a r)⟩ ⟨rfl,rfl,rfl,rfl⟩ rfl h.sz h.rd x
  ·have i:vU E B (SV.vals ve lb args) H ((qAS xs).val ve2 l) H1:=zT.call he P A L z (by rw[N];exact qD9 xs C);have w:H.next<=H1.next:=L.1;exact⟨qAS xs,S3,ρ2,ve2,l,g2,_,U.raise,by rw[s1,s2];exact qGR xs G,x,.of_call R i.raise (Nat.lt_succ_of_le w)⟩
 cases e with
 |normal=>exact y (.inl rfl) x
 |ret=>exact y (.inr rfl) x
 |exit id=>cases x
end
end Go.Am
namespace Go.Am
open Go
section
variable{E:Env}{H H1 H2 H3:AH}{fr fr1 fr2:Fr}
open Classical in
theorem wO.of{l:Nat}{args:List Value}{G:Option Code}{t0:Fr}{u:List Tmp}{a0 p:Code}{C:Nat}{c t:_}{ps:List Tmp}{a b:Code}{r:Nat}{i:LoopState}{j:Option Code}{t3:Fr}{qQw:List Tmp}{a3 A:Code}{F:Nat}{e:AExit}(O:H.blocks.get l=some ⟨.loop .ready G t0 u a0 p,C,true⟩)(k:wI t0 u args=some fr)(R:zT E a0 fr H .normal fr1 H1)(N:H1.blocks.get l=some ⟨.loop .ready c t ps a b,r,true⟩)(P:zT E p fr1 (H1.write l ⟨.loop .ready c t ps a b,r,true⟩ (.loop .busy c t ps a b)) e fr2 H3)(M:H3.blocks.get l=some ⟨.loop i j t3 qQw a3 A,F,true⟩):wO E l args H (.bool (xW e).isNone) (H3.write l ⟨.loop i j t3 qQw a3 A,F,true⟩ (.loop (bif (xW e).isNone then .ready else .done) (xW e) t3 qQw a3 A)):=by
 let B:=H1.write l ⟨.loop .ready c t ps a b,r,true⟩ (.loop .busy c t ps a b);have L:B≠H:=by
  intro e;have:B.blocks.get l=some ⟨.loop .busy c t ps a b,r,true⟩:=by show(H1.write _ _ _).blocks.get l=_;rw[AH.get_write,if_pos rfl]
  rw[e,O]at this;cases this
 let ih:Cmd->AH->j9:=λcmd X=>if cmd=.code a0 fr/\X=H then some (.ex .normal fr1,H1)else if cmd=.code p fr1/\X=B then some (.ex e fr2,H3)else none;have y:∀{cmd:Cmd} {X:AH} {q:Out×AH},ih cmd X=some q->(cmd=.code a0 fr/\X=H/\q=(.ex .normal fr1,H1))∨(cmd=.code p fr1/\X=B/\q=(.ex e fr2,H3)):=by
  intro cmd X q x;simp only[ih]at x;split at x
  ·rename_i z;cases x;exact .inl ⟨z.1,z.2,rfl⟩
  split at x
  ·rename_i z;cases x;exact .inr ⟨z.1,z.2,rfl⟩
  cases x
 have V:IhOK E ih:=by
  refine {up:=?_,call:=?_,round:=?_,code:=?_,codev:=?_}
  ·intro cmd X U Y x;rcases y x with⟨_,o,h3⟩|⟨_,o,h3⟩
   ·cases h3;rw[o];exact R.1
   cases h3;rw[o];exact P.1
  ·intro f args X v Y x;rcases y x with⟨h,_⟩|⟨h,_⟩<;>cases h
  ·intro f args X v Y x;rcases y x with⟨h,_⟩|⟨h,_⟩<;>cases h
  ·intro c2 fr2 X e2 fr3 Y x;rcases y x with⟨h,rfl,h3⟩|⟨h,h',h3⟩
   ·cases h;cases h3;exact R.2
   cases h;cases h3;rw[h'];exact P.2
  intro c2 fr2 X v2 Y x;rcases y x with⟨_,_,h3⟩|⟨_,_,h3⟩<;>cases h3
 have Z:ih (.code a0 fr) H=some (.ex .normal fr1,H1):=by simp[ih]
 have W:ih (.code p fr1) B=some (.ex e fr2,H3):=by simp only[ih];rw[if_neg (λh=>L h.2),if_pos (by simp)]
 have w:gJ E ih l args H=some (.val (.bool (xW e).isNone),H3.write l ⟨.loop i j t3 qQw a3 A,F,true⟩ (.loop (bif (xW e).isNone then .ready else .done) (xW e) t3 qQw a3 A)):=by have K:ih (.code p fr1) (H1.write l ⟨.loop .ready c t ps a b,r,true⟩ (.loop .busy c t ps a b))=some (.ex e fr2,H3):=W;simp only[gJ,O,k,Z,N,K,M]
 obtain⟨v,hv,hr⟩:=qGA V w;cases hv;exact hr
open Classical in
theorem zT.range(he:EOk E){f:Operand}{params:Array Tmp}{assign bd:Code}{g:FuncId}{fn:Func}{first cap:List Value}{v:Value}{st:LoopState}{x:Option Code}{t:Fr}{ps:List Tmp}{a b:Code}{r:Nat}{e:AExit}(F:fr.rd=false)(K:ev E fr f=some (.func (.func g) ⟨first⟩ ⟨cap⟩))(G:E.funcs.get g=some fn)(i:vU E g (first++[.func (.yield H.next) #[] #[]]++cap) (H.new (.loop .ready none ⟨fr.sz,true,fr.t⟩ params.toList assign bd)) v H2)(U:H.next+1<=H2.next)(V:H2.blocks.get H.next=some ⟨.loop st x t ps a b,r,true⟩)(C:st≠.busy)(M:(x=none/\e=.normal)∨(x=some .ret/\e=.ret)∨∃id,x=some (.exit id)/\e=.exit id):zT E (.rangeFunc f params assign bd) fr H e fr (H2.write H.next ⟨.loop st x t ps a b,r,true⟩ (.loop .exhausted x t ps a b)):=by
 let l:=H2.write H.next ⟨.loop st x t ps a b,r,true⟩ (.loop .exhausted x t ps a b);let L:=H.new (.loop .ready none ⟨fr.sz,true,fr.t⟩ params.toList assign bd);let ih:Cmd->AH->j9:=λcmd X=>if cmd=.call g (first++[.func (.yield H.next) #[] #[]]++cap)/\X=L then some (.val v,H2)else if(∃c,x=some c/\cmd=.code c fr)/\X=l then some (.ex e fr,l)else none;have j:∀{cmd:Cmd} {X:AH} {q:Out×AH},ih cmd X=some q->(cmd=.call g (first++[.func (.yield H.next) #[] #[]]++cap)/\X=L/\q=(.val v,H2))∨(∃c,x=some c/\cmd=.code c fr/\X=l/\q=(.ex e fr,l)):=by
  intro cmd X q y;simp only[ih]at y;split at y
  ·rename_i i;cases y;exact .inl ⟨i.1,i.2,rfl⟩
  split at y
  ·rename_i i;cases y;obtain⟨⟨c,k,w⟩,h3⟩:=i;exact .inr ⟨c,k,w,h3,rfl⟩
  cases y
 have o:∀c,x=some c->zT E c fr l e fr l:=by
  intro c i;rcases M with⟨k,_⟩|⟨k,w⟩|⟨id,k,w⟩
  ·rw[k]at i;cases i
  ·rw[k]at i;cases i;subst w;exact .ret
  rw[k]at i;cases i;subst w;exact .exit
 have O:IhOK E ih:=by
  refine {up:=?_,call:=?_,round:=?_,code:=?_,codev:=?_}
  ·intro cmd X N Y y;rcases j y with⟨_,p,h3⟩|⟨c,_,_,p,h3⟩
   ·cases h3;rw[p];exact U
   cases h3;rw[p];exact lR _
  ·intro f z X v Y y;rcases j y with⟨h,rfl,h3⟩|⟨_,_,h,_⟩
   ·cases h;cases h3;exact i
   cases h
  ·intro f z X v Y y;rcases j y with⟨h,_⟩|⟨_,_,h,_⟩<;>cases h
  ·intro c2 fr2 X e2 Z Y y;rcases j y with⟨h,_⟩|⟨c,k,h,W,h3⟩
   ·cases h
   cases h;cases h3;rw[W];exact(o _ k).2
  intro c2 fr2 X v2 Y y;rcases j y with⟨h,_⟩|⟨_,_,_,_,h3⟩
  ·cases h
  cases h3
 have P:ih (.call g (first++[.func (.yield H.next) #[] #[]]++cap)) L=some (.val v,H2):=by simp[ih]
 have B:H.next<=l.next:=by show H.next<=H2.next;omega
 have u:dQ E ih fr f params.toList assign bd H=some (.ex e fr,l):=by
  have A:ih (.call g ((⟨first⟩:Array Value).toList++[.func (.yield H.next) #[] #[]]++(⟨cap⟩:Array Value).toList)) (H.new (.loop .ready none ⟨fr.sz,true,fr.t⟩ params.toList assign bd))=some (.val v,H2):=P;simp only[dQ,F,K,G,A,V,if_neg C];rcases M with⟨rfl,rfl⟩|⟨rfl,rfl⟩|⟨id,rfl,rfl⟩
  ·rfl
  ·simp only[ih];rw[if_neg (λh=>by cases h.1),if_pos ⟨⟨_,rfl,rfl⟩,rfl⟩]
  simp only[ih];rw[if_neg (λh=>by cases h.1),if_pos ⟨⟨_,rfl,rfl⟩,rfl⟩]
 obtain⟨e',fr',R,hr⟩:=qGE he O u;cases R;exact⟨B,hr⟩
end
theorem qAW{x:Option (Option Blk)}(h:qBr x=true):x=some (some (.loop 0 0)):=by
 unfold qBr at h;split at h
 ·rfl
 cases h
theorem qIY{x:Option (Option Blk)}(h:qIZ x=true):x=some (some (.loop 1 0)):=by
 unfold qIZ at h;split at h
 ·rfl
 cases h
section
variable{E:Env}{n0:Lim}{H0:AH}{g0:zB}{S:St}{ρ:List D}{ve:Nat->Value}{lb:Nat->Nat}{g:zB}{fr:Fr}{H:AH}{Q:Res1->Prop}{HS:FuncId->List D->D->Prop}{I:qDL}
theorem qH1{n m sz:Nat}:∀{ps:List Tmp} {args:List SV} {sl c:T SV} {fr:Fr},qDn sz sl ps args=some c->SV.bds n m args->fr.sz=sz->(∀t x,sl.get t=some x->x.bd n m/\fr.t.get t=some (x.val ve lb))->
  ∃b,wI fr ps (SV.vals ve lb args)=some b/\b.sz=sz/\b.rd=fr.rd/\∀t x,c.get t=some x->x.bd n m/\b.t.get t=some (x.val ve lb)
 | [],[],sl,c,fr,h,_,hs,hr=>by
  simp only[qDn,oI]at h
  subst h
  exact⟨fr,rfl,hs,rfl,hr⟩
 | [],_::_,_,_,_,h,_,_,_=>by simp[qDn]at h
 |_::_,[],_,_,_,h,_,_,_=>by simp[qDn]at h
 | p::ps,x::xs,sl,c,fr,h,k,hs,hr=>by
  simp only[qDn]at h
  cases j:Nat.ble (p+1) sz with
  |false=>rw[j]at h;cases h
  | true=>
   rw[j]at h
   simp only[cond_true]at h
   obtain⟨b,r,q,o,l⟩:=qH1 (fr:=⟨fr.sz,fr.rd,fr.t.put p (some (x.val ve lb))⟩) h k.2 hs (λt y i=>by
    rw[T.get_put]at i ⊢
    split at i
    ·rename_i e;cases i;rw[if_pos e];exact⟨k.1,rfl⟩
    rename_i e;rw[if_neg e];exact hr t y i)
   refine⟨b,?_,q,o,l⟩
   simp only[SV.vals,wI,wR,hs,j,cond_true]
   simpa only[hs]using r
theorem qQ8(e:AExit):xW e=qDD (qLG e)/\(xW e).isNone=Nat.beq (qLG e) 0:=by
 cases e with
 |normal=>exact⟨rfl,rfl⟩
 |ret=>exact⟨rfl,rfl⟩
 |exit n=>exact⟨rfl,rfl⟩
theorem qLx(he:EOk E)(h:SR E n0 H0 g0 S ρ ve lb g fr H){Y:Site}{args:List SV}{o:Oper}{κ:K1}(hY:n0.lps=Y.ps/\n0.las=Y.a/\n0.lbd=Y.b/\n0.lfr.sz=Y.sz)(hfr:n0.frs[0]? = some n0.lfr)(K:SV.bds S.n S.blks.length args)(ha:(∃pd t a b r,H.blocks.get (lb Y.L)=some ⟨.loop pd none t Y.ps a b,r,true⟩)->vT E fr o H=some (.round (lb Y.L) (SV.vals ve lb args),H))(y:wp E (Holds E) Q (qIu E I Y args S κ) ρ):oZ E (Holds E) Q n0 H0 g0 fr H o κ:=by
 obtain⟨N,M,y3,y4⟩:=hY;unfold qIu at y;obtain⟨W,y⟩:=jC y;have hb0:=qAW W;split at y;case h_2=>cases y
 rename_i l r u;split at y;case h_2=>cases y
 rename_i sl G;obtain⟨_,rt,L,q3⟩:=h.blks Y.L _ hb0;rw[N,M,y3]at L;have A:Y.L<S.blks.length:=(gI hb0).1;have P:H.blocks.get (lb Y.L)=some ⟨.loop .ready none ⟨n0.lfr.sz,true,n0.lfr.t⟩ Y.ps Y.a Y.b,rt,true⟩:=L;obtain⟨fr0,b1,b2,b3,b4⟩:=qH1 (fr:=⟨n0.lfr.sz,true,n0.lfr.t⟩) (ve:=ve) (lb:=lb) G K y4 (λt x hx=>by obtain⟨r1,f,r2,r3⟩:=h.sav 0 l (by rw[u];rfl) t x (qFx hx);rw[hfr]at r2;cases r2;exact⟨r1,r3⟩);have p:=bU.push h;rw[u]at p;let n1:Lim:={n0 with frs:=fr::n0.frs,rd:=true,F:=(List.range S.blks.length).map lb};have hF:∀k,k<S.blks.length->n1.F[k]? = some (lb k):=λk z=>by show((List.range S.blks.length).map lb)[k]? = _;rw[List.getElem?_map,List.getElem?_range z];rfl
 have h1:SR E n1 H0 g0 {S with slots:=sl,sz:=Y.sz,sav:=rK S.slots S.sz::l::r} ρ ve lb g fr0 H:=by
  refine h.refr (n1:=n1) (S':={S with slots:=sl,sz:=Y.sz,sav:=rK S.slots S.sz::l::r}) rfl rfl ⟨by simp[n1],λk a z=>?_⟩ (.inl ⟨rfl,rfl,rfl,rfl⟩) rfl rfl b2 (by rw[b3]) b4 p;have C:k<S.blks.length:=by have:=(gI z).1;simpa[n1]using this
  rw[hF k C]at z;cases z;rfl
 obtain⟨e1,fr1,H1,V,S1,ρ1,ve1,B,g1,h2,y⟩:=qIm he h1 y;cases e1 with
 |ret=>cases y
 |exit _=>cases y
 | normal=>
  simp only[qTp]at y;obtain⟨hr1,y⟩:=jC y;have Z:=qAW hr1;obtain⟨_,j,p2,p3⟩:=h2.blks Y.L _ Z;have q:B Y.L=lb Y.L:=h2.fix.2 Y.L _ (hF _ A);rw[q]at p2;have R:H1.blocks.get (lb Y.L)=some ⟨.loop .ready none ⟨n0.lfr.sz,true,n0.lfr.t⟩ Y.ps Y.a Y.b,j,true⟩:=by have p2:H1.blocks.get (lb Y.L)=some ⟨.loop .ready none ⟨n0.lfr.sz,true,n0.lfr.t⟩ n0.lps n0.las n0.lbd,j,true⟩:=p2;rw[N,M,y3]at p2;exact p2
  have h3:SR E n1 H0 g0 (S1.setBlk Y.L (.loop 1 0)) ρ1 ve1 B g1 fr1 (H1.write (B Y.L) ⟨.loop .ready none ⟨n0.lfr.sz,true,n0.lfr.t⟩ Y.ps Y.a Y.b,j,true⟩ (.loop .busy none ⟨n0.lfr.sz,true,n0.lfr.t⟩ Y.ps Y.a Y.b)):=by refine h2.storeO Z (by rw[q];exact R) trivial λbs q1 L=>⟨j,?_,L⟩;show bs _=some ⟨.loop .busy none ⟨n0.lfr.sz,true,n0.lfr.t⟩ n0.lps n0.las n0.lbd,j,true⟩;rw[N,M,y3];exact q1
  rw[q]at h3;obtain⟨e,fr2,H3,U,S2,ρ2,ve2,c,g2,h4,y⟩:=qIm he h3 y;simp only[qTB]at y;obtain⟨hr2,y⟩:=jC y;have X:=qIY hr2;obtain⟨_,i,u2,u3⟩:=h4.blks Y.L _ X;have w:c Y.L=lb Y.L:=h4.fix.2 Y.L _ (hF _ A);have O:H3.blocks.get (c Y.L)=some ⟨.loop .busy none ⟨n0.lfr.sz,true,n0.lfr.t⟩ Y.ps Y.a Y.b,i,true⟩:=by have u2:H3.blocks.get (c Y.L)=some ⟨.loop .busy none ⟨n0.lfr.sz,true,n0.lfr.t⟩ n0.lps n0.las n0.lbd,i,true⟩:=u2;rw[N,M,y3]at u2;exact u2
  obtain⟨j1,j2⟩:=qQ8 e
  have h5:SR E n1 H0 g0 (S2.setBlk Y.L (.loop (bif Nat.beq (qLG e) 0 then 0 else 2) (qLG e))) ρ2 ve2 c g2 fr2
    (H3.write (c Y.L) ⟨.loop .busy none ⟨n0.lfr.sz,true,n0.lfr.t⟩ Y.ps Y.a Y.b,i,true⟩ (.loop (bif (xW e).isNone then .ready else .done) (xW e) ⟨n0.lfr.sz,true,n0.lfr.t⟩ Y.ps Y.a Y.b)):=by
   refine h4.storeO X O trivial λbs q1 L=>⟨i,?_,L⟩
   rw[q1,j2,j1]
   show _=some (ABlk.mk (AObj.loop _ (qDD (qLG e)) ⟨n0.lfr.sz,true,n0.lfr.t⟩ n0.lps n0.las n0.lbd) i true)
   rw[N,M,y3]
   cases Nat.beq (qLG e) 0<;>rfl
  have hbl:(S2.setBlk Y.L (.loop (bif Nat.beq (qLG e) 0 then 0 else 2) (qLG e))).blks.length=S2.blks.length:=by simp[St.setBlk]
  obtain⟨S3,s1,s2,h6,y⟩:=qF8 (n0:=n0) (fr:=fr) h5 (xs:=[.c (.bool (Nat.beq (qLG e) 0))]) ⟨trivial,trivial⟩ rfl rfl
   ⟨by have h:=h.fix.1;have h':=h5.fix.1;simp only[n1,List.length_map,List.length_range]at h';omega,λk a z=>by have C:k<S.blks.length:=Nat.lt_of_lt_of_le (gI z).1 h.fix.1;rw[h5.fix.2 k (lb k) (hF k C)];exact h.fix.2 k a z⟩ ⟨rfl,rfl,rfl,rfl⟩ rfl h.sz h.rd y
  have hR:=wO.of P b1 V R U (w▸O);have hle:H.next<=H3.next:=lT V.1 U.1;refine⟨.c (.bool (Nat.beq (qLG e) 0)),S3,ρ2,ve2,c,g2,_,h6.raise,trivial,y,?_⟩;have hx:=mO.of_round (ha ⟨_,_,_,_,_,P⟩) hR.raise (Nat.lt_succ_of_le hle);rw[w,SV.val,←j2];exact hx
end
end Go.Am
namespace Go.Am
open Go
def eO(E:Env)(I:qDL):Prop:=∀g fn c,tJ I g=some (fn,c)->E.funcs.get g=some fn/\fn.body=some c
theorem eO.nil{E:Env}:eO E []:=λ_ _ _ h=>by cases h
theorem eO.cons{E:Env}{f:FuncId}{fn:Func}{c:Code}{I:qDL}(e:E.funcs.get f=some fn)(b:fn.body=some c)(h:eO E I):eO E ((f,fn,c)::I):=by
 intro g y d x;simp only[tJ,qY]at x;split at x
 ·grind
 exact h g y d x
def qPJ(n0:Lim)(Y:Option Site):Prop:=∀y,Y=some y->(n0.lps=y.ps/\n0.las=y.a/\n0.lbd=y.b/\n0.lfr.sz=y.sz)/\n0.frs[0]? = some n0.lfr
section
variable{E:Env}{n0:Lim}{H0:AH}{g0:zB}{S:St}{ρ:List D}{ve:Nat->Value}{lb:Nat->Nat}{g:zB}{fr:Fr}{H:AH}{Q:Res1->Prop}{I:qDL}{Y:Option Site}
theorem qNR(he:EOk E)(P:eO E I)(O:qPJ n0 Y){o:Oper}{κ:K1}(h:SR E n0 H0 g0 S ρ ve lb g fr H)(x:wp E (Holds E) Q (qLM E I Y o S κ) ρ):oZ E (Holds E) Q n0 H0 g0 fr H o κ:=by
 have e:wp E (Holds E) Q (vZ E o S κ) ρ->oZ E (Holds E) Q n0 H0 g0 fr H o κ:=λx=>(eU h x).toR;unfold qLM at x;split at x;case h_2=>exact qNS h x
 rename_i c B;split at x;case h_2=>exact e x
 rename_i f p C j;obtain⟨G,F⟩:=rF (E:=E) h j;split at x
 ·rename_i L i;obtain⟨A,l⟩:=zJ (E:=E) h i;split at x;case h_2=>cases x
  rename_i y;obtain⟨w,q⟩:=jC x;clear x;simp only[aE]at w;have R:=vE w.1;subst R;obtain⟨M,K⟩:=O y rfl;refine qLx he h M K G (λ⟨U,t,a,b,r,N⟩=>?_) q;simp only[SV.val]at l;have u:Nat.beq y.ps.length (SV.vals ve lb p).length=true:=by rw[SV.vals_map,List.length_map];exact w.2
  unfold vT;rw[B];simp only[yL,F,C,l,N,u,cond_true]
 ·rename_i V first cap i
  obtain⟨A,l⟩:=zJ (E:=E) h i;split at x;case h_2=>exact e x
  rename_i fn W u;obtain⟨k,z⟩:=P _ _ _ u;refine qU1 he h k z ?_ ?_ x
  ·rw[SV.bds_iff]at G ⊢;have f1:=SV.bds_iff.1 A.1;have f2:=SV.bds_iff.1 A.2;grind
  simp only[SV.val]at l;unfold vT;rw[B];simp only[yL,F,C,l,oU,k,yH]
 exact e x
end
abbrev Qf(E:Env)(Ts:Nat->Tree)(d:D)(n:Nat):Res1->Prop:=λr=>match r with
 |.ret d'=>d'=d
 |.jump k' ds=>qU7 E (Holds E) Ts n k' ds d
section
variable{E:Env}{n0:Lim}{H0:AH}{g0:zB}{Ts:Nat->Tree}{d:D}{J:Nat->St->Tree}{OP:qDx}{RG:qPK}{at0:Nat}{c0:Code}{κ0:KC}
theorem fG(he:EOk E)(M:uP E n0 H0 g0 (Qf E Ts d) OP)(L:lQ E n0 H0 g0 (Qf E Ts d) J OP RG at0 c0 κ0){pats:Nat->Pat}{szs:Nat->Nat}{RH:Array Tmp->Code->Code->KC->List (Nat×Tree)}(C:J=λk S=>jN (szs k) (pats k) k S)(K:∀x∈j6 E (λk=>(pats k).st (szs k)) J OP RG RH at0 c0 κ0,Ts x.1=x.2)(B:∀k κ b,Place E J OP RG at0 c0 κ0 k (.loop b) κ->n0.F.length<=(pats k).blks.length):
  ∀n m,m<=n->qGb E n0 H0 g0 (Qf E Ts d) J OP RG at0 c0 κ0 m
 |0,m,hm=>by
  intro k b κ l S ρ ve lb g fr H h r
  rw[Nat.le_zero.1 hm,C]at r
  obtain⟨ds,o,g',_,u⟩:=qBp h r (B k κ b l)
  cases u
 | n+1,m,hm=>by
  have ih:=fG he M L C K B n
  rcases Nat.lt_or_ge n m with N|z
  ·have:m=n+1:=by omega
   subst this
   intro k b κ l S ρ ve lb g fr H h r
   have p:=r
   rw[C]at p
   obtain⟨ds,o,g',O,u⟩:=qBp h p (B k κ b l)
   have A:Ts k=qAK E J OP RG (k+1) b ((pats k).st (szs k)) (iF J k κ):=by
    have:=qEk (P:=λk=>(pats k).st (szs k)) (RH:=RH) l (k,qAK E J OP RG (k+1) b ((pats k).st (szs k)) (iF J k κ)) (by simp only[j6];exact List.mem_cons_self)
    exact K _ this
   have q:wp E (Holds E) (Qf E Ts d n) (Ts k) ds:=u
   rw[A]at q
   refine qHt ((rV he M L ih b (k+1) _ l.loop n (lR _) _ ds o lb g' fr H O q).mono ?_)
   rintro e fr1 H1 ⟨t,w,G,y,c,i,g1,F,j⟩
   cases e with
   |normal=>exact(ih t w k b κ l G y c i g1 fr1 H1 F j).mono (Kt.mono (by omega))
   |exit id=>exact⟨t,by omega,G,y,c,i,g1,F,j⟩
   |ret=>exact⟨t,by omega,G,y,c,i,g1,F,j⟩
  exact ih m z
end
end Go.Am
namespace Go.Am
open Go
theorem qNA{E:Env}{J:Nat->St->Tree}{OP:qDx}{RG:qPK}{at0:Nat}{c0:Code}{κ0:KC}{n:Nat}{c:Code}{κ:KC}(h:Place E J OP RG at0 c0 κ0 n c κ):at0<=n:=by
 induction h with
 |root=>exact lR _
 |seqL _ ih=>exact ih
 |seqR _ ih=>exact lT ih (Nat.le_add_right _ _)
 |condL _ ih=>exact ih
 |condR _ ih=>exact lT ih (Nat.le_add_right _ _)
 |block _ ih=>exact ih
 |loop _ ih=>exact Nat.le_succ_of_le ih
 |scope _ ih=>exact ih
theorem qCk{l:List (Option Blk)}(h:l.all fE=true){b:Nat}{x:Blk}(y:l[b]? = some (some x)):x.isL=false:=by
 rw[List.all_eq_true]at h;have:=h _ (List.mem_of_getElem? y);cases x with
 |loop _ _=>cases this
 |tcells _ _=>cases this
 |cells _=>rfl
 |whole _ _=>rfl
theorem qND{x:Option (Option Blk)}{st y:Nat}(h:qQB x=some (st,y)):x=some (some (.loop st y)):=by
 unfold qQB at h;split at h
 ·cases h;rfl
 cases h
theorem qMf(h:Nat):(qDD h=none/\qAs h=.normal)∨(qDD h=some .ret/\qAs h=.ret)∨∃id,qDD h=some (.exit id)/\qAs h=.exit id:=by
 match h with
 |0=>exact .inl ⟨rfl,rfl⟩
 |1=>exact .inr (.inl ⟨rfl,rfl⟩)
 |n+2=>exact .inr (.inr ⟨n,rfl,rfl⟩)
theorem qLq{st:Nat}(h:Nat.beq st 1=false):qLr st≠.busy:=by
 match st with
 |0=>simp[qLr]
 |1=>cases h
 |n+2=>simp[qLr]
section
variable{E:Env}{n0:Lim}{H0:AH}{g0:zB}{S:St}{ρ:List D}{ve:Nat->Value}{lb:Nat->Nat}{g:zB}{fr:Fr}{H:AH}{I:qDL}
theorem SR.drop(h:SR E n0 H0 g0 S ρ ve lb g fr H)(b:Nat):SR E n0 H0 g0 {S with blks:=S.blks.set b none} ρ ve lb g fr H:=by
 have k:∀c x,(S.blks.set b none)[c]? = some (some x)->S.blks[c]? = some (some x)/\c≠b:=by
  intro c x j;rw[List.getElem?_set]at j;split at j
  ·split at j<;>cases j
  ·rename_i q;exact⟨j,λe=>q e.symm⟩
 have lv:∀c,St.live {S with blks:=S.blks.set b none} c->S.live c:=λc ⟨x,l⟩=>⟨x,(k c x l).1⟩;have y:(S.blks.set b none).length=S.blks.length:=by simp
 refine { len:=h.len,wf:=h.wf,mem:=h.mem,base:=h.base,fix:=⟨by rw[y];exact h.fix.1,h.fix.2⟩,vars:=h.vars,blks:=?_,sepLG:=λc j=>h.sepLG c (lv c j),sepFG:=h.sepFG,sepL:=λc d j hd=>h.sepL c d (lv c j) (lv d hd),sepF:=h.sepF,sepX:=λc i j=>h.sepX c i (lv c j),
          sz:=h.sz,rd:=h.rd,slots:=?_,sav:=by rw[y];exact h.sav,keep:=h.keep,gk:=h.gk,low:=h.low,tab:=h.tab}
 ·intro c x l;obtain⟨p,o⟩:=h.blks c x (k c x l).1;exact⟨by rw[y];exact p,o⟩
 ·intro t x l;obtain⟨p,o⟩:=h.slots t x l;exact⟨by rw[y];exact p,o⟩
theorem SR.dropIts(h:SR E n0 H0 g0 S ρ ve lb g fr H):SR E n0 H0 g0 {S with blks:=noIts S.blks} ρ ve lb g fr H:=by
 have inv:∀(c:Nat) (x:Blk),(Go.Am.noIts S.blks)[c]? = some (some x)->S.blks[c]? = some (some x):=by
  intro c x b;unfold Go.Am.noIts at b;rw[List.getElem?_map]at b;cases o:S.blks[c]? with
  |none=>rw[o]at b;cases b
  |some y=>
   rw[o]at b;simp only[Option.map_some,oI]at b;split at b
   ·cases b
   ·rw[b]
 have lv:∀c,St.live {S with blks:=Go.Am.noIts S.blks} c->S.live c:=λc ⟨x,j⟩=>⟨x,inv c x j⟩;have e:(Go.Am.noIts S.blks).length=S.blks.length:=by simp[Go.Am.noIts]
 refine { len:=h.len,wf:=h.wf,mem:=h.mem,base:=h.base,fix:=⟨by rw[e];exact h.fix.1,h.fix.2⟩,vars:=h.vars,blks:=?_,sepLG:=λc b=>h.sepLG c (lv c b),sepFG:=h.sepFG,sepL:=λc d b hd=>h.sepL c d (lv c b) (lv d hd),sepF:=h.sepF,sepX:=λc i b=>h.sepX c i (lv c b),
          sz:=h.sz,rd:=h.rd,slots:=?_,sav:=by rw[e];exact h.sav,keep:=h.keep,gk:=h.gk,low:=h.low,tab:=h.tab}
 ·intro c x j;obtain⟨l,k⟩:=h.blks c x (inv c x j);exact⟨by rw[e];exact l,k⟩
 ·intro t x j;obtain⟨l,k⟩:=h.slots t x j;exact⟨by rw[e];exact l,k⟩
theorem SR.dropW(h:SR E n0 H0 g0 S ρ ve lb g fr H){b:Nat}{x:Blk}(w:S.blks[b]? = some (some x)){r o:AObj}{rt:Nat}(t:H.blocks.get (lb b)=some ⟨r,rt,true⟩)(q:n0.own (lb b) rt):SR E n0 H0 g0 {S with blks:=S.blks.set b none} ρ ve lb g fr (H.write (lb b) ⟨r,rt,true⟩ o):=by
 have j:S.live b:=⟨x,w⟩;refine(h.drop b).heap2 (X:=(·= lb b)) (λc k l=>by rw[AH.get_write,if_neg l]) (λc k=>by subst k;exact h.sepLG b j) (λc d k hd e=>?_) (λc i k u=>by subst k;exact h.sepX b i j u) (λc k=>by subst k;exact(xL h.toSM j).2) (h.wf.write t _) (lR _) ?_
 ·subst k;obtain⟨y,p⟩:=hd;simp only[List.getElem?_set]at p;split at p
  ·split at p<;>cases p
  rename_i l;exact l (h.sepL d b ⟨y,p⟩ j e).symm
 show _<=Nat.min H.low rt;exact Nat.le_min.2 ⟨h.low,lT (Nat.min_le_right _ _) q.1⟩
theorem qLA(he:EOk E)(hI:eO E I){Ts:Nat->Tree}{d:D}{J:Nat->St->Tree}{c0:Code}{κ0:KC}{G:FuncId}{fnG:Func}{cdG:Code}{sz L u at0:Nat}{pats:Nat->Pat}{szs:Nat->Nat}(hG:tJ I G=some (fnG,cdG))(hrd0:n0.rd=false)(hJ:J=λk S=>jN (szs k) (pats k) k S)(hT:∀x∈j6 E (λk=>(pats k).st (szs k)) J (qLM E I none) (iV E J I G sz L u) (qIx E (λk=>(pats k).st (szs k)) J I cdG sz L u) at0 c0 κ0,Ts x.1=x.2)(hP:∀k,u<=k->L+1<=(pats k).blks.length):lQ E n0 H0 g0 (Qf E Ts d) J (qLM E I none) (iV E J I G sz L u) at0 c0 κ0:=by
 intro k f q a b κ hc n S ρ ve lb g fr H h p;unfold iV at p;split at p;case h_2=>cases p
 rename_i gf first cap fn cd hfv hlk
 rw[hG]at hlk;cases hlk;obtain⟨C,hw2⟩:=jC p;clear p;simp only[aE]at C;obtain⟨⟨⟨⟨hgG,hlen⟩,N⟩,hnl⟩,hres⟩:=C;have hgG:=vE hgG;have hlen:=vE hlen;have N:=vE N;subst hgG;obtain⟨hfn,hbd⟩:=hI _ _ _ hG;obtain⟨fb,fe⟩:=zJ (E:=E) h hfv;simp only[SV.val]at fe;have hfrd:fr.rd=false:=by rw[h.rd];exact hrd0
 have hA:SR E {n0 with lfr:=fr,lps:=q.toList,las:=a,lbd:=b} H0 g0 S ρ ve lb g fr H:=h.refr (n1:={n0 with lfr:=fr,lps:=q.toList,las:=a,lbd:=b}) (S':=S) rfl rfl h.fix (.inr λb x i=>qCk hnl i) rfl rfl h.sz h.rd h.slots h.sav;have hB:=hA.allocO (o:=.loop .ready none ⟨fr.sz,true,fr.t⟩ q.toList a b) (x:=.loop 0 0) trivial (λbs h1 h2=>⟨_,h1,h2⟩);have A:qDz lb S.blks.length H.next L=H.next:=by rw[←hlen];exact if_pos rfl
 have w:∀k,k<L->qDz lb S.blks.length H.next k=lb k:=λk B=>if_neg (by omega);generalize hlb':qDz lb S.blks.length H.next=c at hB A w;have hbl:(S.blks++[some (Blk.loop 0 0)]).length=L+1:=by simp[hlen]
 have hbF:SV.bds S.n (L+1) first:=SV.bds_mono (lR _) (by omega) fb.1
 have hbC:SV.bds S.n (L+1) cap:=SV.bds_mono (lR _) (by omega) fb.2;have hargs:SV.bds S.n (S.blks++[some (Blk.loop 0 0)]).length (first++[SV.yld L]++cap):=by
  rw[hbl];rw[SV.bds_iff]at hbF hbC ⊢;intro x i;rcases List.mem_append.1 i with i|i
  ·rcases List.mem_append.1 i with i|i
   ·exact hbF x i
   simp only[List.mem_singleton]at i;subst i;exact Nat.lt_succ_self L
  exact hbC x i
 have hvF:SV.vals ve c first=SV.vals ve lb first:=SV.vals_congr (m:=L) (λ_ _=>rfl) w (by rw[←hlen];exact fb.1)
 have hvC:SV.vals ve c cap=SV.vals ve lb cap:=SV.vals_congr (m:=L) (λ_ _=>rfl) w (by rw[←hlen];exact fb.2);have X:SV.vals ve c (first++[SV.yld L]++cap)=SV.vals ve lb first++[.func (.yield H.next) #[] #[]]++SV.vals ve lb cap:=by rw[yH,yH,hvF,hvC];simp only[SV.vals,SV.val,A]
 have hvl:(SV.vals ve c (first++[SV.yld L]++cap)).length=(first++[SV.yld L]++cap).length:=by rw[SV.vals_map,List.length_map]
 let n1:Lim:={n0 with frs:=fr::n0.frs,rd:=false,lfr:=fr,lps:=q.toList,las:=a,lbd:=b,F:=(List.range (L+1)).map c};have hFk:∀k,k<L+1->n1.F[k]? = some (c k):=λk B=>by show((List.range (L+1)).map c)[k]? = _;rw[List.getElem?_map,List.getElem?_range B];rfl
 have hC:SR E n1 H0 g0 {S with slots:=T.ofList .leaf 0 (first++[SV.yld L]++cap),sz:=Nat.max fnG.ntmps (first++[SV.yld L]++cap).length,sav:=rK S.slots S.sz::S.sav,blks:=S.blks++[some (.loop 0 0)]} ρ ve c g
   ⟨Nat.max fnG.ntmps (SV.vals ve c (first++[SV.yld L]++cap)).length,false,T.ofList .leaf 0 (SV.vals ve c (first++[SV.yld L]++cap))⟩ (H.new (.loop .ready none ⟨fr.sz,true,fr.t⟩ q.toList a b)):=by
  refine hB.refr (n1:=n1) (S':={S with slots:=T.ofList .leaf 0 (first++[SV.yld L]++cap),sz:=Nat.max fnG.ntmps (first++[SV.yld L]++cap).length,sav:=rK S.slots S.sz::S.sav,blks:=S.blks++[some (.loop 0 0)]})
   rfl rfl ⟨by simp only[n1,List.length_map,List.length_range];exact Nat.le_of_eq hbl.symm,λk a B=>?_⟩ (.inl ⟨rfl,rfl,rfl,rfl⟩) rfl rfl (by simp only[hvl]) rfl (aO hargs) (bU.push hB)
  have hlt:k<L+1:=by have:=(gI B).1;simpa[n1]using this
  rw[hFk k hlt]at B;cases B;rfl
 have hYok:qPJ n1 (some ⟨q.toList,a,b,sz,L⟩):=by intro y hy;cases hy;exact⟨⟨rfl,rfl,rfl,by show fr.sz=sz;rw[h.sz];exact N⟩,rfl⟩
 have hOg:uP E n1 H0 g0 (Qf E Ts d) (qLM E I (some ⟨q.toList,a,b,sz,L⟩)):=λm o S ρ ve lb g fr H κ h p=>qNR he hI hYok h p;have hRg:lQ E n1 H0 g0 (Qf E Ts d) J (qLM E I (some ⟨q.toList,a,b,sz,L⟩)) fV u cdG (qKS ⟨q.toList,a,b,sz,L⟩ κ):=λ_ _ _ _ _ _ _ _ _ _ _ _ _ _ _ _ p=>by cases p
 have hTg:∀x∈j6 E (λk=>(pats k).st (szs k)) J (qLM E I (some ⟨q.toList,a,b,sz,L⟩)) fV (λ_ _ _ _=>[]) u cdG (qKS ⟨q.toList,a,b,sz,L⟩ κ),Ts x.1=x.2:=by intro x i;exact hT x (qEk hc x (by simp only[j6];exact i))
 have hjg:=fG (n0:=n1) (H0:=H0) (g0:=g0) (d:=d) he hOg hRg hJ hTg (λk κ b hp=>by have:=hP k (qNA hp);simp only[n1,List.length_map,List.length_range];exact this);obtain⟨e,frg,H2,i,m,hm,M,ρ2,ve2,z,g2,h2,p⟩:=rV (n0:=n1) he hOg hRg (hjg n) cdG u _ .root n (lR _) _ _ _ _ _ _ _ hC hw2;have P:(e=.normal∨e=.ret)->wp E (Holds E) (Qf E Ts d m) (match M.sav,qQB M.blks[L]? with
   |l::r,some (st,O)=>bif Nat.beq st 1 then .fail else
    bif (noIts (M.blks.set L none)).all fE then κ (qAs O) {M with slots:=qQP l,sz:=sz,sav:=r,blks:=noIts (M.blks.set L none)}else .fail
   |_,_=>.fail) ρ2->Fin E (.rangeFunc f q a b) (Kt E n0 H0 g0 (Qf E Ts d) n κ) fr H:=by
  intro hee p
  split at p
  case h_2=>cases p
  rename_i l r st O R hpd
  have hbk:=qND hpd
  rw[cond_eq_ite]at p
  split at p
  ·cases p
  rename_i Z
  have Z:Nat.beq st 1=false:=by cases hb:Nat.beq st 1 with
   |false=>rfl
   |true=>exact absurd hb Z
  obtain⟨hnl2,p⟩:=jC p
  obtain⟨_,rt,u2,u3⟩:=h2.blks L _ hbk
  have U:∀k,k<L+1->z k=c k:=λk B=>h2.fix.2 k _ (hFk k B)
  have hlbL2:z L=H.next:=by rw[U L (Nat.lt_succ_self _)];exact A
  have W:H2.blocks.get (z L)=some ⟨.loop (qLr st) (qDD O) ⟨fr.sz,true,fr.t⟩ q.toList a b,rt,true⟩:=u2
  have K:vU E gf (SV.vals ve c (first++[SV.yld L]++cap)) (H.new (.loop .ready none ⟨fr.sz,true,fr.t⟩ q.toList a b)) (.tuple ⟨[]⟩) H2:=by
   refine zT.call he hfn hbd i hee ?_
   have:fnG.results.toList=[]:=by simpa using hres
   rw[this];rfl
  have hdw:=(h2.dropW hbk W u3 (o:=.loop .exhausted (qDD O) ⟨fr.sz,true,fr.t⟩ q.toList a b)).dropIts
  have V:SR E n0 H0 g0 {M with slots:=qQP l,sz:=sz,sav:=r,blks:=noIts (M.blks.set L none)} ρ2 ve2 z g2 fr (H2.write (z L) ⟨.loop (qLr st) (qDD O) ⟨fr.sz,true,fr.t⟩ q.toList a b,rt,true⟩ (.loop .exhausted (qDD O) ⟨fr.sz,true,fr.t⟩ q.toList a b)):=by
   refine hdw.refr (n1:=n0) (S':={M with slots:=qQP l,sz:=sz,sav:=r,blks:=noIts (M.blks.set L none)}) rfl rfl ⟨?_,λk a B=>?_⟩ (.inr λb x i=>qCk hnl2 i) rfl rfl (by rw[h.sz];exact N) h.rd ?_ ?_
   ·have q1:=h.fix.1
    have q2:=h2.fix.1
    simp only[n1,List.length_map,List.length_range]at q2
    simp only[noIts,List.length_map,List.length_set];omega
   ·have hlt:k<S.blks.length:=Nat.lt_of_lt_of_le (gI B).1 h.fix.1
    rw[U k (by omega),w k (by omega)]
    exact h.fix.2 k a B
   ·intro t x i
    obtain⟨q1,f,q2,q3⟩:=hdw.sav 0 l (by show M.sav[0]? = _;rw[R];rfl) t x (qFx i)
    cases q2
    exact⟨q1,q3⟩
   intro j l' hl t x i
   obtain⟨q1,f,q2,q3⟩:=hdw.sav (j+1) l' (by show M.sav[j+1]? = _;rw[R];simpa using hl) t x i
   exact⟨q1,f,by simpa[n1]using q2,q3⟩
  rw[hlbL2]at W V
  rw[X]at K
  have hR:=zT.range (e:=qAs O) he hfrd fe hfn K (by have:=i.1;exact this) W (qLq Z) (qMf O)
  exact⟨_,fr,_,hR,m,hm,_,ρ2,ve2,z,g2,V,p⟩
 cases e with
 |normal=>exact P (.inl rfl) p
 |ret=>exact P (.inr rfl) p
 |exit id=>cases p
end
end Go.Am
