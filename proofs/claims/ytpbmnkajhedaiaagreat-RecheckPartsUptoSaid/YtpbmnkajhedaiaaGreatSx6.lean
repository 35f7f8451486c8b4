/- Loops over functions in symbolic runs: the iterator's code runs in place, and so do the rounds and small callees. Conditions: none. -/
import Derived.Test.YtpbmnkajhedaiaaGreatSx4
set_option linter.all false
namespace Go.Am
open Go
def lD(t:T SV):Nat->List (Nat×SV)
 |0=>[]
 |n+1=>match t.get n with
  |some x=>(n,x)::lD t n
  |none=>lD t n
def qRR(l:List (Nat×SV)):T SV:=l.foldl (λt (p:Nat×SV)=>t.put p.1 (some p.2)) .leaf
def qD2:List SV->SV
 | [x]=>x
 |l=>.tup l
def qWv:Nat->St->Tree:=λ_ _=>.fail
abbrev qKV:=Oper->St->K1->Tree
def qLp(OP:qKV)(all:Array Oper):List Oper->St->(St->Tree)->Tree
 | [],S,κ=>κ S
 | o::os,S,κ=>
  qCv all o S
   (λS=>OP o S λy S=>match S.put o.dst y with
    |some S=>qLp OP all os S κ
    |none=>.fail)
   (λS=>match S.put o.dst (.tup [])with
    |some S=>qLp OP all os S κ
    |none=>.fail)
abbrev qQR:=Operand->Array Tmp->Code->Code->St->KC->Tree
def qAZ:qQR:=λ_ _ _ _ _ _=>.fail
def qAY(E:Env)(J:Nat->St->Tree)(OP:qKV)(RG:qQR):Nat->Code->St->KC->Tree
 |at_,.seq a b,S,κ=>qAY E J OP RG at_ a S (qK9 (λS=>qAY E J OP RG (at_+nl a) b S κ) κ)
 |at_,.cond c a b,S,κ=>match pW S c with
  |some (.c (.bool true))=>qAY E J OP RG at_ a S κ
  |some (.c (.bool false))=>qAY E J OP RG (at_+nl a) b S κ
  |some (.v i)=>bif S.pureV i then .ite (.v i) (qAY E J OP RG at_ a (S.known i true) κ) (qAY E J OP RG (at_+nl a) b (S.known i false) κ)else .fail
  |_=>.fail
 |at_,.block id b,S,κ=>qAY E J OP RG at_ b S (cP id κ)
 |at_,.loop _,S,_=>J at_ S
 |at_,.scope b,S,κ=>qAY E J OP RG at_ b S κ
 |_,.region id ops draw,S,κ=>bif draw then sx E qWv 1 (.region id ops draw) S κ else qLp OP ops ops.toList S (κ .normal)
 |_,.rangeFunc f h a b,S,κ=>RG f h a b S κ
 |_,.skip,S,κ=>κ .normal S
 |_,.label _,S,κ=>κ .normal S
 |_,.ret,S,κ=>κ .ret S
 |_,.exit id,S,κ=>κ (.exit id) S
 |_,_,_,_=>.fail
abbrev qFV:=List (FuncId×Func×Code)
def qAH:qFV->FuncId->Option (Func×Code)
 | [],_=>none
 |(f,fn,c)::r,g=>bif Nat.beq f g then some (fn,c)else qAH r g
def qX8(E:Env)(I:qFV):qKV:=λo S κ=>match o.op with
 | .makeFunc (.func g) first cap=>match qAH I g with
  |some _=>match cL S first.toList,cL S cap.toList with
   |some a,some b=>κ (.fn (.func g) a b) S
   |_,_=>.fail
  |none=>vZ E o S κ
 |_=>vZ E o S κ
def zBk(E:Env)(I:qFV):Code->St->KC->Tree:=qAY E qWv (qX8 E I) qAZ 1
def qGf(E:Env)(κ:List SV->St->Tree)(S:St)(acc:List SV):List ResultVar->Tree
 | []=>κ acc S
 |.tmp t::r=>match S.slots.get t with
  |some x=>qGf E κ S (acc++[x]) r
  |none=>.fail
 |.cell a t::r=>match S.slots.get a with
  |some p=>qD9 E t p S λx S=>qGf E κ S (acc++[x]) r
  |none=>.fail
def qEE(sz:Nat)(κ:K1)(xs:List SV)(S:St):Tree:=match S.sav with
 |l::r=>κ (qD2 xs) {S with slots:=qRR l,sz:=sz,sav:=r}
 | []=>.fail
def zC1(E:Env)(h:List ResultVar)(sz:Nat)(κ:K1):KC:=λe S=>match e with
 |.normal=>qGf E (qEE sz κ) S [] h
 |.ret=>qGf E (qEE sz κ) S [] h
 |.exit _=>.fail
def qW3(E:Env)(I:qFV)(fn:Func)(c:Code)(h:List SV)(S:St)(κ:K1):Tree:=
 zBk E I c {S with slots:=T.ofList .leaf 0 h,sz:=Nat.max fn.ntmps h.length,sav:=lD S.slots S.sz::S.sav} (zC1 E fn.results.toList S.sz κ)
def qDa(sz:Nat):T SV->List Tmp->List SV->Option (T SV)
 |t,[],[]=>some t
 |t,p::h,x::xs=>bif Nat.ble (p+1) sz then qDa sz (t.put p (some x)) h xs else none
 |_,_,_=>none
structure Site where
 ps:List Tmp
 a:Code
 b:Code
 sz:Nat
 L:Nat
def qLo:AExit->Nat
 |.normal=>0
 |.ret=>1
 |.exit n=>n+2
def qBi:Option (Option Blk)->Bool
 |some (some (.loop 0 0))=>true
 |_=>false
def qIE:Option (Option Blk)->Bool
 |some (some (.loop 1 0))=>true
 |_=>false
def qU4(Y:Site)(sz:Nat)(κ:K1):KC:=λe S=>
 bif qIE S.blks[Y.L]? then qEE sz κ [.c (.bool (Nat.beq (qLo e) 0))] (S.setBlk Y.L (.loop (bif Nat.beq (qLo e) 0 then 0 else 2) (qLo e)))else .fail
def qUY(E:Env)(I:qFV)(Y:Site)(sz:Nat)(κ:K1):KC:=λe S=>match e with
 |.normal=>bif qBi S.blks[Y.L]? then zBk E I Y.b (S.setBlk Y.L (.loop 1 0)) (qU4 Y sz κ)else .fail
 |_=>.fail
def qIe(E:Env)(I:qFV)(Y:Site)(h:List SV)(S:St)(κ:K1):Tree:=
 bif qBi S.blks[Y.L]? then
  match S.sav with
  |l::r=>match qDa Y.sz (qRR l) Y.ps h with
   |some sl=>zBk E I Y.a {S with slots:=sl,sz:=Y.sz,sav:=lD S.slots S.sz::l::r} (qUY E I Y S.sz κ)
   |none=>.fail
  | []=>.fail
 else .fail
def qFT(E:Env)(I:qFV)(Y:Option Site):qKV:=λo S κ=>match o.op with
 | .call c=>match c.callee,cL S c.args.toList with
  | .value f,some h=>match pW S f with
   |some (.yld L)=>match Y with
    |some Y=>bif Nat.beq L Y.L&&Nat.beq Y.ps.length h.length then qIe E I Y h S κ else .fail
    |none=>.fail
   |some (.fn (.func g) first cap)=>match qAH I g with
    |some (fn,x)=>qW3 E I fn x (first++h++cap) S κ
    |none=>vZ E o S κ
   |_=>vZ E o S κ
  |_,_=>vZ E o S κ
 |_=>qX8 E I o S κ
def qAh:Nat->AExit
 |0=>.normal
 |1=>.ret
 |n+2=>.exit n
def qRA:Option (Option Blk)->Option (Nat×Nat)
 |some (some (.loop st pd))=>some (st,pd)
 |_=>none
def noIts(l:List (Option Blk)):List (Option Blk):=l.map λb=>match b with
 |some (.tcells _ _)=>none
 |x=>x
def qKu(Y:Site)(κ:KC):KC:=λe S=>match e with
 |.exit _=>.fail
 |_=>match S.sav,qRA S.blks[Y.L]? with
  |l::r,some (st,pd)=>bif Nat.beq st 1 then .fail else bif (noIts (S.blks.set Y.L none)).all fG then κ (qAh pd) {S with slots:=qRR l,sz:=Y.sz,sav:=r,blks:=noIts (S.blks.set Y.L none)}else .fail
  |_,_=>.fail
def nL(E:Env)(J:Nat->St->Tree)(I:qFV)(G:FuncId)(sz L at0:Nat):qQR:=λf h a b S κ=>
 match pW S f,qAH I G with
 |some (.fn (.func g) first cap),some (fn,x)=>
  bif Nat.beq g G&&Nat.beq S.blks.length L&&Nat.beq S.sz sz&&S.blks.all fG&&fn.results.toList.isEmpty then qAY E J (qFT E I (some ⟨h.toList,a,b,sz,L⟩)) qAZ at0 x {S with slots:=T.ofList .leaf 0 (first++[SV.yld L]++cap),sz:=Nat.max fn.ntmps (first++[SV.yld L]++cap).length,sav:=lD S.slots S.sz::S.sav,blks:=S.blks++[some (.loop 0 0)]} (qKu ⟨h.toList,a,b,sz,L⟩ κ)
  else .fail
 |_,_=>.fail
def j5(E:Env)(P:Nat->St)(J:Nat->St->Tree)(OP:qKV)(RG:qQR)(RH:Array Tmp->Code->Code->KC->List (Nat×Tree)):Nat->Code->KC->List (Nat×Tree)
 |at_,.seq a b,κ=>j5 E P J OP RG RH at_ a (qK9 (λS=>qAY E J OP RG (at_+nl a) b S κ) κ)++j5 E P J OP RG RH (at_+nl a) b κ
 |at_,.cond _ a b,κ=>j5 E P J OP RG RH at_ a κ++j5 E P J OP RG RH (at_+nl a) b κ
 |at_,.block id b,κ=>j5 E P J OP RG RH at_ b (cP id κ)
 |at_,.loop b,κ=>(at_,qAY E J OP RG (at_+1) b (P at_) (iB J at_ κ))::j5 E P J OP RG RH (at_+1) b (iB J at_ κ)
 |at_,.scope b,κ=>j5 E P J OP RG RH at_ b κ
 |_,.rangeFunc _ h a b,κ=>RH h a b κ
 |_,_,_=>[]
def qBW(E:Env)(P:Nat->St)(J:Nat->St->Tree)(I:qFV)(x:Code)(sz L at0:Nat):Array Tmp->Code->Code->KC->List (Nat×Tree):=λh a b κ=>
 j5 E P J (qFT E I (some ⟨h.toList,a,b,sz,L⟩)) qAZ (λ_ _ _ _=>[]) at0 x (qKu ⟨h.toList,a,b,sz,L⟩ κ)
theorem uT{t:T SV}:∀{n u:Nat} {x:SV},(u,x)∈lD t n->t.get u=some x
 |0,_,_,h=>by cases h
 | n+1,u,x,h=>by
  simp only[lD]at h;split at h
  ·rename_i y b;rcases List.mem_cons.1 h with e|h
   ·cases e;exact b
   exact uT h
  exact uT h
theorem qFi{l:List (Nat×SV)}{t:Nat}{x:SV}(h:(qRR l).get t=some x):(t,x)∈l:=by
 rcases qCz l .leaf h with h|h
 ·exact h
 cases h
theorem wR.raise{E:Env}{l:Nat}{args:List Value}{H H':AH}{v:Value}(h:wR E l args H v H'):wR E l args H v {H' with next:=H'.next+1}:=by
 intro σ w y L lo o hv q j i p c cs;obtain⟨e,w',v',g1,s,g3⟩:=h σ w y L lo o hv (λb t r=>q b t (Nat.lt_succ_of_lt r)) j i p c cs;have st:Step E σ H w e {H' with next:=H'.next+1} w':=by
  refine⟨⟨s.hr.objs,s.hr.sep,s.hr.glob,λb k x=>?_⟩,Nat.le_succ_of_le s.next,λb x=>?_,s.size,s.low,s.tape,s.os,s.output,s.frame,s.origin,s.old,s.keep,s.born⟩
  ·exact⟨(s.hr.wf b k x).1,Nat.lt_succ_of_lt (s.hr.wf b k x).2⟩
  refine s.ext b ?_;rcases x with x|x
  ·exact .inl x
  exact .inr (Nat.le_of_succ_le x)
 exact⟨e,w',v',g1,st,g3⟩
theorem mH.of_round{E:Env}{fr:Fr}{o:Oper}{H H':AH}{l:Nat}{args:List Value}{v:Value}(h:v9 E fr o H=some (.round l args,H))(b:wR E l args H v H')(x:H.next<H'.next):mH E fr o H v H':=by
 refine⟨Nat.le_of_lt x,[{f:=l,args:=args,H:=H,v:=v,H':=H',rnd:=true}],⟨⟨x,b⟩,vE _,trivial⟩,λa h=>?_,λc y=>?_⟩
 ·simp only[List.mem_singleton]at h;subst h;exact vE _
 have:=y _ (List.mem_singleton.2 rfl);simp only[jL.cmd]at this;simp only[vS,h];rw[this]
section
variable{E:Env}{n0:Lim}{H0:AH}{g0:zG}{S:St}{ρ:List D}{ve:Nat->Value}{lb:Nat->Nat}{g:zG}{fr:Fr}{H:AH}{Q:Res1->Prop}{HS:FuncId->List D->D->Prop}
theorem SR.refr(h:SR E n0 H0 g0 S ρ ve lb g fr H){n1:Lim}(U:n1.n=n0.n)(R:n1.K=n0.K)(P:n1.F.length<=S.blks.length/\∀k a,n1.F[k]? = some a->lb k=a)(e:(n1.lfr=n0.lfr/\n1.lps=n0.lps/\n1.las=n0.las/\n1.lbd=n0.lbd)∨∀(b:Nat) (x:Blk),S.blks[b]? = some (some x)->x.isL=false){S':St}(z:S'.sts=S.sts)(w:S'.blks=S.blks){y:Fr}(f1:y.sz=S'.sz)(f2:y.rd=n1.rd)(f3:∀t x,S'.slots.get t=some x->x.bd S.n S.blks.length/\y.t.get t=some (x.val ve lb))(O:dA n1.frs S'.sav S.n S.blks.length ve lb):SR E n1 H0 g0 S' ρ ve lb g y H:=by
 obtain⟨n,K,F,frs,rd,lfr,lps,las,lbd⟩:=n1;obtain⟨n',K',F',N,X,C,A,L,G⟩:=n0;simp only at U R P e f2 O;subst U R;obtain⟨W,slots,blks,sz,sav⟩:=S;obtain⟨r,j,p,V,u⟩:=S';simp only at z w;subst z w;refine {len:=h.len,wf:=h.wf,mem:=h.mem,base:=h.base,fix:=P,vars:=?_,blks:=?_,sepLG:=h.sepLG,sepFG:=h.sepFG,sepL:=h.sepL,sepF:=h.sepF,sepX:=h.sepX,sz:=f1,rd:=f2,slots:=f3,sav:=O,keep:=h.keep,gk:=h.gk,low:=h.low,tab:=h.tab}
 ·intro i s hs;have:=h.vars i s hs;obtain⟨k,oo⟩:=s;refine⟨this.1,?_⟩;have M:=this.2;cases k<;>try exact M
  rcases M with q|⟨B,l,cs,vs,el,rt,sz,es,q⟩|⟨B,es,ck,rt,ks,dd,q⟩
  ·exact .inl q
  ·exact .inr (.inl ⟨B,l,cs,vs,el,rt,sz,es,{q with rt:=q.rt}⟩)
  exact .inr (.inr ⟨B,es,ck,rt,ks,dd,{q with rt:=q.rt}⟩)
 intro b x o;obtain⟨q1,c⟩:=h.blks b x o;refine⟨q1,?_⟩;rcases e with⟨rfl,rfl,rfl,rfl⟩|e
 ·cases x with
  |loop st pd=>exact c
  |tcells _ _=>exact c
  |cells _=>exact c
  |whole _ _=>exact c
 obtain⟨el,rt,cs,r1,r2,Z⟩:=c.cells (e b x o);exact .ofCells (e b x o) ⟨el,rt,cs,r1,r2,Z⟩
theorem SR.raise(h:SR E n0 H0 g0 S ρ ve lb g fr H):SR E n0 H0 g0 S ρ ve lb g fr {H with next:=H.next+1}:=
 h.heap (H':={H with next:=H.next+1}) (λ_ _=>rfl) (λb k x=>⟨(h.wf b k x).1,Nat.lt_succ_of_lt (h.wf b k x).2⟩) (Nat.le_succ _) h.low
theorem dA.push(h:SR E n0 H0 g0 S ρ ve lb g fr H):dA (fr::n0.frs) (lD S.slots S.sz::S.sav) S.n S.blks.length ve lb:=by
 intro j l c t x e;cases j with
 |zero=>simp only[List.getElem?_cons_zero,oI]at c;subst c;obtain⟨b,y⟩:=h.slots t x (uT e);exact⟨b,fr,rfl,y⟩
 |succ j=>obtain⟨b,f,y,i⟩:=h.sav j l (by simpa using c) t x e;exact⟨b,f,by simpa using y,i⟩
def Kq(E:Env)(n0:Lim)(H0:AH)(g0:zG)(Q:Res1->Prop)(κ:KC):oN:=λe fr H=>∃S ρ ve lb g,SR E n0 H0 g0 S ρ ve lb g fr H/\wp E (Holds E) Q (κ e S) ρ
theorem qVI(he:EOk E){c:Code}{κ:KC}(h:SR E n0 H0 g0 S ρ ve lb g fr H)(x:wp E (Holds E) Q (sx E qWv 1 c S κ) ρ):Fin E c (Kq E n0 H0 g0 Q κ) fr H:=by refine dG (c0:=c) (κ0:=κ) (K0:=Kq E n0 H0 g0 Q κ) (J:=qWv) he (λk b κ K y S ρ ve lb g fr H h x=>by cases x) c 1 κ (Kq E n0 H0 g0 Q κ) .root ?_ S ρ ve lb g fr H h x;intro e S ρ ve lb g fr H h x;exact⟨S,ρ,ve,lb,g,h,x⟩
def mI(E:Env)(HS:FuncId->List D->D->Prop)(Q:Res1->Prop)(n0:Lim)(H0:AH)(g0:zG)(fr:Fr)(H:AH)(o:Oper)(κ:K1):Prop:=
 ∃y S' ρ' h x g' H',SR E n0 H0 g0 S' ρ' h x g' fr H'/\y.bd S'.n S'.blks.length/\wp E HS Q (κ y S') ρ'/\mH E fr o H (y.val h x) H'
theorem jZ.toR{c:Bool}{o:Oper}{κ:K1}(h:jZ c E HS Q n0 H0 g0 fr H o κ):mI E HS Q n0 H0 g0 fr H o κ:=by obtain⟨y,S',ρ',x,b,g',H',k,j,i,e,_⟩:=h;exact⟨y,S',ρ',x,b,g',H',k,j,i,e⟩
theorem qE3{κ:List SV->St->Tree}:∀(i:List ResultVar) (acc:List SV) {S:St} {ρ:List D} {ve:Nat->Value} {lb:Nat->Nat} {g:zG} {fr:Fr} {H:AH},SR E n0 H0 g0 S ρ ve lb g fr H->SV.bds S.n S.blks.length acc->wp E HS Q (qGf E κ S acc i) ρ->
  ∃S' ρ' b g' vs xs,SR E n0 H0 g0 S' ρ' b lb g' fr H/\v8 E fr H i=some vs/\SV.bds S'.n S'.blks.length xs/\SV.vals b lb xs=SV.vals ve lb acc++vs/\wp E HS Q (κ xs S') ρ'
 | [],acc,S,ρ,ve,lb,g,fr,H,h,e,c=>⟨S,ρ,ve,g,[],acc,h,rfl,e,by rw[List.append_nil],c⟩
 | .tmp t::i,acc,S,ρ,ve,lb,g,fr,H,h,e,c=>by
  simp only[qGf]at c
  split at c
  ·rename_i x G
   obtain⟨A,z⟩:=h.slots t x G
   obtain⟨S',ρ',b,g',vs,xs,w,r,q,j,o⟩:=qE3 i (acc++[x]) h (by
    rw[SV.bds_iff]at e ⊢
    intro u hu
    rcases List.mem_append.1 hu with hu|hu
    ·exact e u hu
    simp only[List.mem_singleton]at hu;subst hu;exact A) c
   refine⟨S',ρ',b,g',x.val ve lb::vs,xs,w,by simp only[v8,z,r,Option.map_some],q,?_,o⟩
   rw[yS]at j
   simpa[SV.vals]using j
  cases c
 | .cell a t::i,acc,S,ρ,ve,lb,g,fr,H,h,e,c=>by
  simp only[qGf]at c
  split at c
  ·rename_i p K
   obtain⟨A,z⟩:=h.slots a p K
   obtain⟨y,M,F,k,g1,C,L,B,s1,s2⟩:=qBb h A c
   obtain⟨S',ρ',b,g',vs,xs,w,r,q,j,o⟩:=qE3 i (acc++[y]) L (by
    have l:=C.bds e
    rw[SV.bds_iff]at l ⊢
    intro u hu
    rcases List.mem_append.1 hu with hu|hu
    ·exact l u hu
    simp only[List.mem_singleton]at hu;subst hu;exact s1) B
   refine⟨S',ρ',b,g',y.val k lb::vs,xs,w,by simp only[v8,z,Option.bind_some,s2,r,Option.map_some],q,?_,o⟩
   rw[yS]at j
   have:SV.vals k lb acc=SV.vals ve lb acc:=SV.vals_congr C.ve (λ_ _=>rfl) e
   rw[this]at j
   simpa[SV.vals]using j
  cases c
theorem qKR{n1:Lim}{b:St}{y:List D}{i:Nat->Value}{c:Nat->Nat}{g1:zG}{fr1:Fr}{H1:AH}(h:SR E n1 H0 g0 b y i c g1 fr1 H1){sz:Nat}{κ:K1}{xs:List SV}(L:SV.bds b.n b.blks.length xs)(K:n0.n=n1.n)(G:n0.K=n1.K)(F:n0.F.length<=b.blks.length/\∀k a,n0.F[k]? = some a->c k=a)(C:n0.lfr=n1.lfr/\n0.lps=n1.lps/\n0.las=n1.las/\n0.lbd=n1.lbd)(z:n1.frs=fr::n0.frs)(f1:fr.sz=sz)(f2:fr.rd=n0.rd)(o:wp E HS Q (qEE sz κ xs b) y):∃S',S'.n=b.n/\S'.blks=b.blks/\SR E n0 H0 g0 S' y i c g1 fr H1/\wp E HS Q (κ (qD2 xs) S') y:=by
 unfold qEE at o;split at o;case h_2=>cases o
 rename_i l r w;refine⟨{b with slots:=qRR l,sz:=sz,sav:=r},rfl,rfl,h.refr (S':={b with slots:=qRR l,sz:=sz,sav:=r}) K G F (.inl C) rfl rfl f1 f2 ?_ ?_,o⟩
 ·intro t x u;obtain⟨q,f,e,p⟩:=h.sav 0 l (by rw[w];rfl) t x (qFi u);rw[z]at e;simp only[List.getElem?_cons_zero,oI]at e;subst e;exact⟨q,p⟩
 intro j A B t x u;obtain⟨q,f,e,p⟩:=h.sav (j+1) A (by rw[w];simpa using B) t x u;rw[z]at e;exact⟨q,f,by simpa using e,p⟩
theorem qLu{ve:Nat->Value}{lb:Nat->Nat}(xs:List SV){vs:List Value}(h:SV.vals ve lb xs=vs):(match some vs with|some [v]=>some v|some vs=>some (Value.tuple ⟨vs⟩)|none=>none)=some ((qD2 xs).val ve lb):=by
 subst h
 match xs with
 | []=>rfl
 | [x]=>rfl
 |x::y::r=>rfl
theorem qOL{n m:Nat}(xs:List SV)(h:SV.bds n m xs):(qD2 xs).bd n m:=by
 match xs,h with
 | [],h=>exact h
 | [x],h=>exact h.1
 |x::y::r,h=>exact h
theorem qDd{ve:Nat->Value}{lb:Nat->Nat}{n m:Nat}{args:List SV}(y:SV.bds n m args):∀t x,(T.ofList .leaf 0 args).get t=some x->x.bd n m/\(T.ofList .leaf 0 (SV.vals ve lb args)).get t=some (x.val ve lb):=by intro t x h;rw[dQ]at h;rw[SV.bds_iff]at y;refine⟨y x (List.mem_of_getElem? h),?_⟩;rw[mX,SV.vals_map,List.getElem?_map,h];rfl
end
theorem Fin.mono{E:Env}{c:Code}{K K':oN}{fr:Fr}{H:AH}(h:Fin E c K fr H)(x:∀e fr H,K e fr H->K' e fr H):Fin E c K' fr H:=by obtain⟨e,fr1,H1,b,y⟩:=h;exact⟨e,fr1,H1,b,x _ _ _ y⟩
def qMv(E:Env)(n0:Lim)(H0:AH)(g0:zG)(QQ:Nat->Res1->Prop)(OP:qKV):Prop:=
 ∀m o S ρ ve lb g fr H κ,SR E n0 H0 g0 S ρ ve lb g fr H->wp E (Holds E) (QQ m) (OP o S κ) ρ->mI E (Holds E) (QQ m) n0 H0 g0 fr H o κ
theorem qE9{E:Env}{n0:Lim}{H0:AH}{g0:zG}{QQ:Nat->Res1->Prop}{OP:qKV}(t:qMv E n0 H0 g0 QQ OP)(m:Nat){all:Array Oper}:∀(os:List Oper) (i:Nat) {S:St} {ρ:List D} {ve:Nat->Value} {lb:Nat->Nat} {g:zG} {fr:Fr} {H:AH} {κ:St->Tree},SR E n0 H0 g0 S ρ ve lb g fr H->wp E (Holds E) (QQ m) (qLp OP all os S κ) ρ->
  ∃S' ρ' c e g' b H',SR E n0 H0 g0 S' ρ' c e g' b H'/\wp E (Holds E) (QQ m) (κ S') ρ'/\yP E all false os i fr H b H'
 | [],i,S,ρ,ve,lb,g,fr,H,κ,h,x=>⟨S,ρ,ve,lb,g,fr,H,h,x,.nil⟩
 | o::os,i,S,ρ,ve,lb,g,fr,H,κ,h,x=>by
  simp only[qLp]at x
  obtain⟨L,z,x⟩:=qGS h x
  rcases x with⟨r,x⟩|⟨r,x⟩
  ·obtain⟨y,K,ρ2,ve2,A,g2,H2,F,C,x,B⟩:=t m _ _ _ _ _ _ _ _ _ z x
   simp only at x
   split at x
   ·rename_i G q
    obtain⟨w,j,u⟩:=uK F C q
    obtain⟨S',ρ',c,e,g',b,H',p,l,k⟩:=qE9 t m os (i+1) u x
    exact⟨S',ρ',c,e,g',b,H',p,l,.cons r B j k⟩
   cases x
  split at x
  ·rename_i G q
   obtain⟨w,j,u⟩:=uK z (y:=.tup []) trivial q
   obtain⟨S',ρ',c,e,g',b,H',p,l,k⟩:=qE9 t m os (i+1) u x
   exact⟨S',ρ',c,e,g',b,H',p,l,.skipped r j k⟩
  cases x
def Kt(E:Env)(n0:Lim)(H0:AH)(g0:zG)(QQ:Nat->Res1->Prop)(n:Nat)(κ:KC):oN:=λe fr H=>∃m,m<=n/\Kq E n0 H0 g0 (QQ m) κ e fr H
inductive Place (E:Env) (J:Nat->St->Tree) (OP:qKV) (RG:qQR) (at0:Nat) (c0:Code) (κ0:KC):Nat->Code->KC->Prop
 |root:Place E J OP RG at0 c0 κ0 at0 c0 κ0
 |seqL {n:Nat} {a b:Code} {κ:KC} (h:Place E J OP RG at0 c0 κ0 n (.seq a b) κ):Place E J OP RG at0 c0 κ0 n a (qK9 (λS=>qAY E J OP RG (n+nl a) b S κ) κ)
 |seqR {n:Nat} {a b:Code} {κ:KC} (h:Place E J OP RG at0 c0 κ0 n (.seq a b) κ):Place E J OP RG at0 c0 κ0 (n+nl a) b κ
 |condL {n:Nat} {c:Operand} {a b:Code} {κ:KC} (h:Place E J OP RG at0 c0 κ0 n (.cond c a b) κ):Place E J OP RG at0 c0 κ0 n a κ
 |condR {n:Nat} {c:Operand} {a b:Code} {κ:KC} (h:Place E J OP RG at0 c0 κ0 n (.cond c a b) κ):Place E J OP RG at0 c0 κ0 (n+nl a) b κ
 |block {n id:Nat} {b:Code} {κ:KC} (h:Place E J OP RG at0 c0 κ0 n (.block id b) κ):Place E J OP RG at0 c0 κ0 n b (cP id κ)
 |loop {n:Nat} {b:Code} {κ:KC} (h:Place E J OP RG at0 c0 κ0 n (.loop b) κ):Place E J OP RG at0 c0 κ0 (n+1) b (iB J n κ)
 |scope {n:Nat} {b:Code} {κ:KC} (h:Place E J OP RG at0 c0 κ0 n (.scope b) κ):Place E J OP RG at0 c0 κ0 n b κ
section
variable{E:Env}{n0:Lim}{H0:AH}{g0:zG}{QQ:Nat->Res1->Prop}{J:Nat->St->Tree}{OP:qKV}{RG:qQR}{at0:Nat}{c0:Code}{κ0:KC}
theorem Kt.mono{n x:Nat}(y:n<=x){κ:KC}:∀e fr H,Kt E n0 H0 g0 QQ n κ e fr H->Kt E n0 H0 g0 QQ x κ e fr H:=by rintro e fr H ⟨m,hm,h⟩;exact⟨m,lT hm y,h⟩
theorem qEg{P:Nat->St}{RH:Array Tmp->Code->Code->KC->List (Nat×Tree)}{n:Nat}{c:Code}{κ:KC}(b:Place E J OP RG at0 c0 κ0 n c κ):∀x∈j5 E P J OP RG RH n c κ,x∈j5 E P J OP RG RH at0 c0 κ0:=by
 induction b with
 |root=>exact λx h=>h
 |seqL b y=>exact λx h=>y x (by simp only[j5];exact List.mem_append_left _ h)
 |seqR b y=>exact λx h=>y x (by simp only[j5];exact List.mem_append_right _ h)
 |condL b y=>exact λx h=>y x (by simp only[j5];exact List.mem_append_left _ h)
 |condR b y=>exact λx h=>y x (by simp only[j5];exact List.mem_append_right _ h)
 |block b y=>exact λx h=>y x (by simp only[j5];exact h)
 |loop b y=>exact λx h=>y x (by simp only[j5];exact mC _ h)
 |scope b y=>exact λx h=>y x (by simp only[j5];exact h)
def qJp(E:Env)(n0:Lim)(H0:AH)(g0:zG)(QQ:Nat->Res1->Prop)(J:Nat->St->Tree)(OP:qKV)(RG:qQR)(at0:Nat)(c0:Code)(κ0:KC)(n:Nat):Prop:=
 ∀k b κ,Place E J OP RG at0 c0 κ0 k (.loop b) κ->∀S ρ ve lb g fr H,SR E n0 H0 g0 S ρ ve lb g fr H->wp E (Holds E) (QQ n) (J k S) ρ->Fin E (.loop b) (Kt E n0 H0 g0 QQ n κ) fr H
def fT(E:Env)(n0:Lim)(H0:AH)(g0:zG)(QQ:Nat->Res1->Prop)(J:Nat->St->Tree)(OP:qKV)(RG:qQR)(at0:Nat)(c0:Code)(κ0:KC):Prop:=
 ∀k f h a b κ,Place E J OP RG at0 c0 κ0 k (.rangeFunc f h a b) κ->∀n S ρ ve lb g fr H,SR E n0 H0 g0 S ρ ve lb g fr H->wp E (Holds E) (QQ n) (RG f h a b S κ) ρ->Fin E (.rangeFunc f h a b) (Kt E n0 H0 g0 QQ n κ) fr H
theorem nF(he:EOk E)(F:qMv E n0 H0 g0 QQ OP)(C:fT E n0 H0 g0 QQ J OP RG at0 c0 κ0){n:Nat}(B:∀m,m<=n->qJp E n0 H0 g0 QQ J OP RG at0 c0 κ0 m):
  ∀(c:Code) (k:Nat) (κ:KC),Place E J OP RG at0 c0 κ0 k c κ->∀m,m<=n->∀S ρ ve lb g fr H,SR E n0 H0 g0 S ρ ve lb g fr H->wp E (Holds E) (QQ m) (qAY E J OP RG k c S κ) ρ->Fin E c (Kt E n0 H0 g0 QQ m κ) fr H
 |.seq a b,k,κ,j,m,hm,S,ρ,ve,lb,g,fr,H,h,x=>by
  refine qKp ((nF he F C B a k _ j.seqL m hm S ρ ve lb g fr H h x).mono ?_)
  rintro e fr1 H1 ⟨u,o,z,p,q,r,g1,w,y⟩
  cases e with
  |normal=>exact(nF he F C B b _ κ j.seqR u (lT o hm) z p q r g1 fr1 H1 w y).mono (Kt.mono o)
  |exit id=>exact⟨u,o,z,p,q,r,g1,w,y⟩
  |ret=>exact⟨u,o,z,p,q,r,g1,w,y⟩
 | .cond c a b,k,κ,j,m,hm,S,ρ,ve,lb,g,fr,H,h,x=>by
  simp only[qAY]at x
  have Tt:∀S',SR E n0 H0 g0 S' ρ ve lb g fr H->ev E fr c=some (.bool true)->wp E (Holds E) (QQ m) (qAY E J OP RG k a S' κ) ρ->Fin E (.cond c a b) (Kt E n0 H0 g0 QQ m κ) fr H:=by
   intro S' O hv x
   obtain⟨e,fr1,H1,K,G⟩:=nF he F C B a k κ j.condL m hm S' ρ ve lb g fr H O x
   exact⟨e,fr1,H1,K.condT he hv,G⟩
  have R:∀S',SR E n0 H0 g0 S' ρ ve lb g fr H->ev E fr c=some (.bool false)->wp E (Holds E) (QQ m) (qAY E J OP RG (k+nl a) b S' κ) ρ->Fin E (.cond c a b) (Kt E n0 H0 g0 QQ m κ) fr H:=by
   intro S' O hv x
   obtain⟨e,fr1,H1,K,G⟩:=nF he F C B b (k+nl a) κ j.condR m hm S' ρ ve lb g fr H O x
   exact⟨e,fr1,H1,K.condF he hv,G⟩
  split at x
  ·rename_i hv;exact Tt S h (zQ (E:=E) h hv).2 x
  ·rename_i hv;exact R S h (zQ (E:=E) h hv).2 x
  ·rename_i i hv
   obtain⟨N,x⟩:=jC x
   obtain⟨t,hd,x⟩:=qBh x
   have A:=(zQ (E:=E) h hv).2
   simp only[SV.val,tV h.toSM N hd]at A
   cases t with
   |true=>exact Tt _ (nQ h N hd) A x
   |false=>exact R _ (nQ h N hd) A x
  cases x
 | .block id b,k,κ,j,m,hm,S,ρ,ve,lb,g,fr,H,h,x=>by
  refine qEt ((nF he F C B b k _ j.block m hm S ρ ve lb g fr H h x).mono ?_)
  rintro e fr1 H1 ⟨u,o,z,p,q,r,g1,w,y⟩
  cases e with
  |normal=>exact⟨u,o,z,p,q,r,g1,w,y⟩
  |ret=>exact⟨u,o,z,p,q,r,g1,w,y⟩
  | exit W=>
   simp only[cP,qZ]at y
   simp only[l9]
   split
   ·rename_i e;rw[if_pos e]at y
    exact⟨u,o,z,p,q,r,g1,w,y⟩
   rename_i e;rw[if_neg e]at y
   exact⟨u,o,z,p,q,r,g1,w,y⟩
 |.loop b,k,κ,j,m,hm,S,ρ,ve,lb,g,fr,H,h,x=>B m hm k b κ j S ρ ve lb g fr H h x
 |.scope b,k,κ,j,m,hm,S,ρ,ve,lb,g,fr,H,h,x=>qEs (nF he F C B b k κ j.scope m hm S ρ ve lb g fr H h x)
 | .region id ops draw,k,κ,j,m,hm,S,ρ,ve,lb,g,fr,H,h,x=>by
  cases draw with
  |true=>
   have x:wp E (Holds E) (QQ m) (sx E qWv 1 (.region id ops true) S κ) ρ:=x
   exact(qVI he h x).mono λe fr1 H1 X=>⟨m,vE _,X⟩
  |false=>
   have x:wp E (Holds E) (QQ m) (qLp OP ops ops.toList S (κ .normal)) ρ:=x
   obtain⟨S',ρ',L,M,g',P,H',K,G,U⟩:=qE9 F m ops.toList 0 h x
   exact⟨_,P,H',.region he U,m,vE _,S',ρ',L,M,g',K,G⟩
 |.skip,k,κ,j,m,hm,S,ρ,ve,lb,g,fr,H,h,x=>⟨_,fr,H,.skip,m,vE _,S,ρ,ve,lb,g,h,x⟩
 |.label l,k,κ,j,m,hm,S,ρ,ve,lb,g,fr,H,h,x=>⟨_,fr,H,.label,m,vE _,S,ρ,ve,lb,g,h,x⟩
 |.ret,k,κ,j,m,hm,S,ρ,ve,lb,g,fr,H,h,x=>⟨_,fr,H,.ret,m,vE _,S,ρ,ve,lb,g,h,x⟩
 |.exit id,k,κ,j,m,hm,S,ρ,ve,lb,g,fr,H,h,x=>⟨_,fr,H,.exit,m,vE _,S,ρ,ve,lb,g,h,x⟩
 |.rangeFunc f V a b,k,κ,j,m,hm,S,ρ,ve,lb,g,fr,H,h,x=>C k f V a b κ j m S ρ ve lb g fr H h x
 |.goto _,k,κ,j,m,hm,S,ρ,ve,lb,g,fr,H,h,x=>by cases x
 |.refuse _,k,κ,j,m,hm,S,ρ,ve,lb,g,fr,H,h,x=>by cases x
end
section
variable{E:Env}{n0:Lim}{H0:AH}{g0:zG}{S:St}{ρ:List D}{ve:Nat->Value}{lb:Nat->Nat}{g:zG}{fr:Fr}{H:AH}{Q:Res1->Prop}{HS:FuncId->List D->D->Prop}{I:qFV}
theorem qOH{o:Oper}{κ:K1}(h:SR E n0 H0 g0 S ρ ve lb g fr H)(y:wp E (Holds E) Q (qX8 E I o S κ) ρ):mI E (Holds E) Q n0 H0 g0 fr H o κ:=by
 have x:wp E (Holds E) Q (vZ E o S κ) ρ->mI E (Holds E) Q n0 H0 g0 fr H o κ:=λy=>(eU h y).toR;unfold qX8 at y;split at y;case h_2=>exact x y
 rename_i j first cap c
 split at y;case h_2=>exact x y
 split at y;case h_2=>cases y
 rename_i a b i e;obtain⟨a1,a2⟩:=rL (E:=E) h i;obtain⟨l,k⟩:=rL (E:=E) h e;refine⟨.fn (.func j) a b,S,ρ,ve,lb,g,H,h,⟨a1,l⟩,y,.of_val (vE _) ?_⟩;unfold v9;rw[c];simp only[a2,k,one,rK,if_true,Option.map_some,SV.val]
theorem qH5(he:EOk E){c:Code}{κ:KC}(h:SR E n0 H0 g0 S ρ ve lb g fr H)(x:wp E (Holds E) Q (zBk E I c S κ) ρ):Fin E c (Kq E n0 H0 g0 Q κ) fr H:=by
 have i:∀m,m<=0->qJp E n0 H0 g0 (λ_=>Q) qWv (qX8 E I) qAZ 1 c κ m:=λm _ k b κ l S ρ ve lb g fr H h x=>by cases x
 have j:fT E n0 H0 g0 (λ_=>Q) qWv (qX8 E I) qAZ 1 c κ:=λ_ _ _ _ _ _ _ _ _ _ _ _ _ _ _ _ x=>by cases x
 refine(nF (QQ:=λ_=>Q) he (λm o S ρ ve lb g fr H κ h x=>qOH h x) j i c 1 κ .root 0 (vE _) S ρ ve lb g fr H h x).mono ?_;rintro e fr1 H1 ⟨m,_,y⟩;exact y
theorem qW2(he:EOk E)(h:SR E n0 H0 g0 S ρ ve lb g fr H){B:FuncId}{fn:Func}{c:Code}{args:List SV}{o:Oper}{κ:K1}(R:E.funcs.get B=some fn)(A:fn.body=some c)(j:SV.bds S.n S.blks.length args)(U:v9 E fr o H=some (.enter B (SV.vals ve lb args),H))(x:wp E (Holds E) Q (qW3 E I fn c args S κ) ρ):mI E (Holds E) Q n0 H0 g0 fr H o κ:=by
 unfold qW3 at x;have p:(SV.vals ve lb args).length=args.length:=by rw[SV.vals_map,List.length_map]
 have X:SR E {n0 with frs:=fr::n0.frs,rd:=false,F:=(List.range S.blks.length).map lb} H0 g0 {S with slots:=T.ofList .leaf 0 args,sz:=Nat.max fn.ntmps args.length,sav:=lD S.slots S.sz::S.sav} ρ ve lb g ⟨Nat.max fn.ntmps (SV.vals ve lb args).length,false,T.ofList .leaf 0 (SV.vals ve lb args)⟩ H:=by refine h.refr (n1:={n0 with frs:=fr::n0.frs,rd:=false,F:=(List.range S.blks.length).map lb}) (S':={S with slots:=T.ofList .leaf 0 args,sz:=Nat.max fn.ntmps args.length,sav:=lD S.slots S.sz::S.sav}) rfl rfl ⟨by simp,λk a r=>?_⟩ (.inl ⟨rfl,rfl,rfl,rfl⟩) rfl rfl (by simp only[p]) rfl (qDd j) (dA.push h);rw[List.getElem?_map,Option.map_eq_some_iff]at r;obtain⟨q,P,rfl⟩:=r;obtain⟨q1,K⟩:=gI P;rw[List.getElem_range]at K;rw[K]
 obtain⟨e,fr1,H1,L,S1,t,N,l,g1,W,x⟩:=qH5 he X x;have y:(e=.normal∨e=.ret)->wp E (Holds E) Q (qGf E (qEE S.sz κ) S1 [] fn.results.toList) t->mI E (Holds E) Q n0 H0 g0 fr H o κ:=by
  intro z x;obtain⟨S2,ρ2,ve2,g2,vs,xs,M,O,G,C,x⟩:=qE3 fn.results.toList [] W trivial x;simp only[SV.vals,List.nil_append]at C;have b:=M.fix;obtain⟨Z,s1,s2,V,x⟩:=qKR (n0:=n0) (fr:=fr) M G rfl rfl ⟨(by have:S.blks.length<=S2.blks.length:=(by have:=b.1;simpa using this);exact lT h.fix.1 this),λk a r=>(by have u:k<S.blks.length:=Nat.lt_of_lt_of_le (gI r).1 h.fix.1;rw[b.2 k (lb k) (by rw[List.getElem?_map,List.getElem?_range u];rfl)];exact h.fix.2 k a r)⟩ ⟨rfl,rfl,rfl,rfl⟩ rfl h.sz h.rd x
  ·have i:jV E B (SV.vals ve lb args) H ((qD2 xs).val ve2 l) H1:=vC.call he R A L z (by rw[O];exact qLu xs C);have w:H.next<=H1.next:=L.1;exact⟨qD2 xs,Z,ρ2,ve2,l,g2,_,V.raise,by rw[s1,s2];exact qOL xs G,x,.of_call U i.raise (Nat.lt_succ_of_le w)⟩
 cases e with
 |normal=>exact y (.inl rfl) x
 |ret=>exact y (.inr rfl) x
 |exit id=>cases x
end
section
variable{E:Env}{H H1 H2 H3:AH}{fr fr1 fr2:Fr}
open Classical in
theorem wR.of{l:Nat}{args:List Value}{L:Option Code}{t0:Fr}{z:List Tmp}{a0 w:Code}{G:Nat}{pd t:_}{ps:List Tmp}{a b:Code}{r:Nat}{k:LoopState}{o:Option Code}{t3:Fr}{y:List Tmp}{a3 C:Code}{K:Nat}{e:AExit}(R:H.blocks.get l=some ⟨.loop .ready L t0 z a0 w,G,true⟩)(p:wL t0 z args=some fr)(V:vC E a0 fr H .normal fr1 H1)(P:H1.blocks.get l=some ⟨.loop .ready pd t ps a b,r,true⟩)(U:vC E w fr1 (H1.write l ⟨.loop .ready pd t ps a b,r,true⟩ (.loop .busy pd t ps a b)) e fr2 H3)(O:H3.blocks.get l=some ⟨.loop k o t3 y a3 C,K,true⟩):wR E l args H (.bool (wB e).isNone) (H3.write l ⟨.loop k o t3 y a3 C,K,true⟩ (.loop (bif (wB e).isNone then .ready else .done) (wB e) t3 y a3 C)):=by
 let F:=H1.write l ⟨.loop .ready pd t ps a b,r,true⟩ (.loop .busy pd t ps a b);have N:F≠H:=by
  intro e;have:F.blocks.get l=some ⟨.loop .busy pd t ps a b,r,true⟩:=by show(H1.write _ _ _).blocks.get l=_;rw[AH.get_write,if_pos rfl]
  rw[e,R]at this;cases this
 let j:Cmd->AH->gV:=λcmd X=>if cmd=.code a0 fr/\X=H then some (.ex .normal fr1,H1)else if cmd=.code w fr1/\X=F then some (.ex e fr2,H3)else none;have c:∀{cmd:Cmd} {X:AH} {q:Out×AH},j cmd X=some q->(cmd=.code a0 fr/\X=H/\q=(.ex .normal fr1,H1))∨(cmd=.code w fr1/\X=F/\q=(.ex e fr2,H3)):=by
  intro cmd X q x;simp only[j]at x;split at x
  ·rename_i B;cases x;exact .inl ⟨B.1,B.2,rfl⟩
  split at x
  ·rename_i B;cases x;exact .inr ⟨B.1,B.2,rfl⟩
  cases x
 have Z:IhOK E j:=by
  refine {up:=?_,call:=?_,round:=?_,code:=?_,codev:=?_}
  ·intro cmd X W Y x;rcases c x with⟨_,u,i⟩|⟨_,u,i⟩
   ·cases i;rw[u];exact V.1
   cases i;rw[u];exact U.1
  ·intro f args X v Y x;rcases c x with⟨h,_⟩|⟨h,_⟩<;>cases h
  ·intro f args X v Y x;rcases c x with⟨h,_⟩|⟨h,_⟩<;>cases h
  ·intro c2 fr2 X e2 fr3 Y x;rcases c x with⟨h,rfl,i⟩|⟨h,h',i⟩
   ·cases h;cases i;exact V.2
   cases h;cases i;rw[h'];exact U.2
  intro c2 fr2 X v2 Y x;rcases c x with⟨_,_,i⟩|⟨_,_,i⟩<;>cases i
 have i1:j (.code a0 fr) H=some (.ex .normal fr1,H1):=by simp[j]
 have i2:j (.code w fr1) F=some (.ex e fr2,H3):=by simp only[j];rw[if_neg (λh=>N h.2),if_pos (by simp)]
 have A:gY E j l args H=some (.val (.bool (wB e).isNone),H3.write l ⟨.loop k o t3 y a3 C,K,true⟩ (.loop (bif (wB e).isNone then .ready else .done) (wB e) t3 y a3 C)):=by have M:j (.code w fr1) (H1.write l ⟨.loop .ready pd t ps a b,r,true⟩ (.loop .busy pd t ps a b))=some (.ex e fr2,H3):=i2;simp only[gY,R,p,i1,P,M,O]
 obtain⟨v,hv,hr⟩:=qGb Z A;cases hv;exact hr
open Classical in
theorem vC.range(he:EOk E){f:Operand}{params:Array Tmp}{assign bd:Code}{g:FuncId}{fn:Func}{first cap:List Value}{v:Value}{st:LoopState}{x:Option Code}{t:Fr}{ps:List Tmp}{a b:Code}{r:Nat}{e:AExit}(K:fr.rd=false)(M:ev E fr f=some (.func (.func g) ⟨first⟩ ⟨cap⟩))(L:E.funcs.get g=some fn)(i:jV E g (first++[.func (.yield H.next) #[] #[]]++cap) (H.new (.loop .ready none ⟨fr.sz,true,fr.t⟩ params.toList assign bd)) v H2)(W:H.next+1<=H2.next)(Z:H2.blocks.get H.next=some ⟨.loop st x t ps a b,r,true⟩)(G:st≠.busy)(O:(x=none/\e=.normal)∨(x=some .ret/\e=.ret)∨∃id,x=some (.exit id)/\e=.exit id):vC E (.rangeFunc f params assign bd) fr H e fr (H2.write H.next ⟨.loop st x t ps a b,r,true⟩ (.loop .exhausted x t ps a b)):=by
 let p:=H2.write H.next ⟨.loop st x t ps a b,r,true⟩ (.loop .exhausted x t ps a b);let N:=H.new (.loop .ready none ⟨fr.sz,true,fr.t⟩ params.toList assign bd);let l:Cmd->AH->gV:=λcmd X=>if cmd=.call g (first++[.func (.yield H.next) #[] #[]]++cap)/\X=N then some (.val v,H2)else if(∃c,x=some c/\cmd=.code c fr)/\X=p then some (.ex e fr,p)else none;have j:∀{cmd:Cmd} {X:AH} {q:Out×AH},l cmd X=some q->(cmd=.call g (first++[.func (.yield H.next) #[] #[]]++cap)/\X=N/\q=(.val v,H2))∨(∃c,x=some c/\cmd=.code c fr/\X=p/\q=(.ex e fr,p)):=by
  intro cmd X q y;simp only[l]at y;split at y
  ·rename_i i;cases y;exact .inl ⟨i.1,i.2,rfl⟩
  split at y
  ·rename_i i;cases y;obtain⟨⟨c,o,A⟩,k⟩:=i;exact .inr ⟨c,o,A,k,rfl⟩
  cases y
 have u:∀c,x=some c->vC E c fr p e fr p:=by
  intro c i;rcases O with⟨o,_⟩|⟨o,A⟩|⟨id,o,A⟩
  ·rw[o]at i;cases i
  ·rw[o]at i;cases i;subst A;exact .ret
  rw[o]at i;cases i;subst A;exact .exit
 have R:IhOK E l:=by
  refine {up:=?_,call:=?_,round:=?_,code:=?_,codev:=?_}
  ·intro cmd X P Y y;rcases j y with⟨_,w,k⟩|⟨c,_,_,w,k⟩
   ·cases k;rw[w];exact W
   cases k;rw[w];exact vE _
  ·intro f B X v Y y;rcases j y with⟨h,rfl,k⟩|⟨_,_,h,_⟩
   ·cases h;cases k;exact i
   cases h
  ·intro f B X v Y y;rcases j y with⟨h,_⟩|⟨_,_,h,_⟩<;>cases h
  ·intro c2 fr2 X e2 fr3 Y y;rcases j y with⟨h,_⟩|⟨c,o,h,h',k⟩
   ·cases h
   cases h;cases k;rw[h'];exact(u _ o).2
  intro c2 fr2 X v2 Y y;rcases j y with⟨h,_⟩|⟨_,_,_,_,k⟩
  ·cases h
  cases k
 have U:l (.call g (first++[.func (.yield H.next) #[] #[]]++cap)) N=some (.val v,H2):=by simp[l]
 have F:H.next<=p.next:=by show H.next<=H2.next;omega
 have z:iR E l fr f params.toList assign bd H=some (.ex e fr,p):=by
  have C:l (.call g ((⟨first⟩:Array Value).toList++[.func (.yield H.next) #[] #[]]++(⟨cap⟩:Array Value).toList)) (H.new (.loop .ready none ⟨fr.sz,true,fr.t⟩ params.toList assign bd))=some (.val v,H2):=U;simp only[iR,K,M,L,C,Z,if_neg G];rcases O with⟨rfl,rfl⟩|⟨rfl,rfl⟩|⟨id,rfl,rfl⟩
  ·rfl
  ·simp only[l];rw[if_neg (λh=>by cases h.1),if_pos ⟨⟨_,rfl,rfl⟩,rfl⟩]
  simp only[l];rw[if_neg (λh=>by cases h.1),if_pos ⟨⟨_,rfl,rfl⟩,rfl⟩]
 obtain⟨e',fr',V,hr⟩:=qGi he R z;cases V;exact⟨F,hr⟩
end
theorem qAI{x:Option (Option Blk)}(h:qBi x=true):x=some (some (.loop 0 0)):=by
 unfold qBi at h;split at h
 ·rfl
 cases h
theorem qID{x:Option (Option Blk)}(h:qIE x=true):x=some (some (.loop 1 0)):=by
 unfold qIE at h;split at h
 ·rfl
 cases h
section
variable{E:Env}{n0:Lim}{H0:AH}{g0:zG}{S:St}{ρ:List D}{ve:Nat->Value}{lb:Nat->Nat}{g:zG}{fr:Fr}{H:AH}{Q:Res1->Prop}{HS:FuncId->List D->D->Prop}{I:qFV}
theorem qHy{n m sz:Nat}:∀{ps:List Tmp} {args:List SV} {sl c:T SV} {fr:Fr},qDa sz sl ps args=some c->SV.bds n m args->fr.sz=sz->(∀t x,sl.get t=some x->x.bd n m/\fr.t.get t=some (x.val ve lb))->
  ∃b,wL fr ps (SV.vals ve lb args)=some b/\b.sz=sz/\b.rd=fr.rd/\∀t x,c.get t=some x->x.bd n m/\b.t.get t=some (x.val ve lb)
 | [],[],sl,c,fr,h,_,hs,hr=>by
  simp only[qDa,oI]at h
  subst h
  exact⟨fr,rfl,hs,rfl,hr⟩
 | [],_::_,_,_,_,h,_,_,_=>by simp[qDa]at h
 |_::_,[],_,_,_,h,_,_,_=>by simp[qDa]at h
 | p::ps,x::xs,sl,c,fr,h,k,hs,hr=>by
  simp only[qDa]at h
  cases j:Nat.ble (p+1) sz with
  |false=>rw[j]at h;cases h
  | true=>
   rw[j]at h
   simp only[cond_true]at h
   obtain⟨b,r,q,o,l⟩:=qHy (fr:=⟨fr.sz,fr.rd,fr.t.put p (some (x.val ve lb))⟩) h k.2 hs (λt y i=>by
    rw[T.get_put]at i ⊢
    split at i
    ·rename_i e;cases i;rw[if_pos e];exact⟨k.1,rfl⟩
    rename_i e;rw[if_neg e];exact hr t y i)
   refine⟨b,?_,q,o,l⟩
   simp only[SV.vals,wL,yC,hs,j,cond_true]
   simpa only[hs]using r
theorem qSb(e:AExit):wB e=qDv (qLo e)/\(wB e).isNone=Nat.beq (qLo e) 0:=by
 cases e with
 |normal=>exact⟨rfl,rfl⟩
 |ret=>exact⟨rfl,rfl⟩
 |exit n=>exact⟨rfl,rfl⟩
theorem qLd(he:EOk E)(h:SR E n0 H0 g0 S ρ ve lb g fr H){Y:Site}{args:List SV}{o:Oper}{κ:K1}(hY:n0.lps=Y.ps/\n0.las=Y.a/\n0.lbd=Y.b/\n0.lfr.sz=Y.sz)(hfr:n0.frs[0]? = some n0.lfr)(K:SV.bds S.n S.blks.length args)(ha:(∃pd t a b r,H.blocks.get (lb Y.L)=some ⟨.loop pd none t Y.ps a b,r,true⟩)->v9 E fr o H=some (.round (lb Y.L) (SV.vals ve lb args),H))(y:wp E (Holds E) Q (qIe E I Y args S κ) ρ):mI E (Holds E) Q n0 H0 g0 fr H o κ:=by
 obtain⟨O,N,M,y4⟩:=hY;unfold qIe at y;obtain⟨X,y⟩:=jC y;have hb0:=qAI X;split at y;case h_2=>cases y
 rename_i l r u;split at y;case h_2=>cases y
 rename_i sl G;obtain⟨_,rt,L,q3⟩:=h.blks Y.L _ hb0;rw[O,N,M]at L;have A:Y.L<S.blks.length:=(gI hb0).1;have R:H.blocks.get (lb Y.L)=some ⟨.loop .ready none ⟨n0.lfr.sz,true,n0.lfr.t⟩ Y.ps Y.a Y.b,rt,true⟩:=L;obtain⟨fr0,b1,b2,b3,b4⟩:=qHy (fr:=⟨n0.lfr.sz,true,n0.lfr.t⟩) (ve:=ve) (lb:=lb) G K y4 (λt x hx=>by obtain⟨r1,f,r2,r3⟩:=h.sav 0 l (by rw[u];rfl) t x (qFi hx);rw[hfr]at r2;cases r2;exact⟨r1,r3⟩);have p:=dA.push h;rw[u]at p;let n1:Lim:={n0 with frs:=fr::n0.frs,rd:=true,F:=(List.range S.blks.length).map lb};have hF:∀k,k<S.blks.length->n1.F[k]? = some (lb k):=λk z=>by show((List.range S.blks.length).map lb)[k]? = _;rw[List.getElem?_map,List.getElem?_range z];rfl
 have h1:SR E n1 H0 g0 {S with slots:=sl,sz:=Y.sz,sav:=lD S.slots S.sz::l::r} ρ ve lb g fr0 H:=by
  refine h.refr (n1:=n1) (S':={S with slots:=sl,sz:=Y.sz,sav:=lD S.slots S.sz::l::r}) rfl rfl ⟨by simp[n1],λk a z=>?_⟩ (.inl ⟨rfl,rfl,rfl,rfl⟩) rfl rfl b2 (by rw[b3]) b4 p;have C:k<S.blks.length:=by have:=(gI z).1;simpa[n1]using this
  rw[hF k C]at z;cases z;rfl
 obtain⟨e1,fr1,H1,W,S1,ρ1,ve1,B,g1,h2,y⟩:=qH5 he h1 y;cases e1 with
 |ret=>cases y
 |exit _=>cases y
 | normal=>
  simp only[qUY]at y;obtain⟨hr1,y⟩:=jC y;have hb1:=qAI hr1;obtain⟨_,j,p2,p3⟩:=h2.blks Y.L _ hb1;have q:B Y.L=lb Y.L:=h2.fix.2 Y.L _ (hF _ A);rw[q]at p2;have U:H1.blocks.get (lb Y.L)=some ⟨.loop .ready none ⟨n0.lfr.sz,true,n0.lfr.t⟩ Y.ps Y.a Y.b,j,true⟩:=by have p2:H1.blocks.get (lb Y.L)=some ⟨.loop .ready none ⟨n0.lfr.sz,true,n0.lfr.t⟩ n0.lps n0.las n0.lbd,j,true⟩:=p2;rw[O,N,M]at p2;exact p2
  have h3:SR E n1 H0 g0 (S1.setBlk Y.L (.loop 1 0)) ρ1 ve1 B g1 fr1 (H1.write (B Y.L) ⟨.loop .ready none ⟨n0.lfr.sz,true,n0.lfr.t⟩ Y.ps Y.a Y.b,j,true⟩ (.loop .busy none ⟨n0.lfr.sz,true,n0.lfr.t⟩ Y.ps Y.a Y.b)):=by refine h2.storeO hb1 (by rw[q];exact U) trivial λbs q1 L=>⟨j,?_,L⟩;show bs _=some ⟨.loop .busy none ⟨n0.lfr.sz,true,n0.lfr.t⟩ n0.lps n0.las n0.lbd,j,true⟩;rw[O,N,M];exact q1
  rw[q]at h3;obtain⟨e,fr2,H3,V,S2,ρ2,ve2,c,g2,h4,y⟩:=qH5 he h3 y;simp only[qU4]at y;obtain⟨hr2,y⟩:=jC y;have Z:=qID hr2;obtain⟨_,i,u2,u3⟩:=h4.blks Y.L _ Z;have w:c Y.L=lb Y.L:=h4.fix.2 Y.L _ (hF _ A);have P:H3.blocks.get (c Y.L)=some ⟨.loop .busy none ⟨n0.lfr.sz,true,n0.lfr.t⟩ Y.ps Y.a Y.b,i,true⟩:=by have u2:H3.blocks.get (c Y.L)=some ⟨.loop .busy none ⟨n0.lfr.sz,true,n0.lfr.t⟩ n0.lps n0.las n0.lbd,i,true⟩:=u2;rw[O,N,M]at u2;exact u2
  obtain⟨j1,j2⟩:=qSb e
  have h5:SR E n1 H0 g0 (S2.setBlk Y.L (.loop (bif Nat.beq (qLo e) 0 then 0 else 2) (qLo e))) ρ2 ve2 c g2 fr2
    (H3.write (c Y.L) ⟨.loop .busy none ⟨n0.lfr.sz,true,n0.lfr.t⟩ Y.ps Y.a Y.b,i,true⟩ (.loop (bif (wB e).isNone then .ready else .done) (wB e) ⟨n0.lfr.sz,true,n0.lfr.t⟩ Y.ps Y.a Y.b)):=by
   refine h4.storeO Z P trivial λbs q1 L=>⟨i,?_,L⟩
   rw[q1,j2,j1]
   show _=some (ABlk.mk (AObj.loop _ (qDv (qLo e)) ⟨n0.lfr.sz,true,n0.lfr.t⟩ n0.lps n0.las n0.lbd) i true)
   rw[O,N,M]
   cases Nat.beq (qLo e) 0<;>rfl
  have hbl:(S2.setBlk Y.L (.loop (bif Nat.beq (qLo e) 0 then 0 else 2) (qLo e))).blks.length=S2.blks.length:=by simp[St.setBlk]
  obtain⟨S3,s1,s2,h6,y⟩:=qKR (n0:=n0) (fr:=fr) h5 (xs:=[.c (.bool (Nat.beq (qLo e) 0))]) ⟨trivial,trivial⟩ rfl rfl
   ⟨by have h:=h.fix.1;have h':=h5.fix.1;simp only[n1,List.length_map,List.length_range]at h';omega,λk a z=>by have C:k<S.blks.length:=Nat.lt_of_lt_of_le (gI z).1 h.fix.1;rw[h5.fix.2 k (lb k) (hF k C)];exact h.fix.2 k a z⟩ ⟨rfl,rfl,rfl,rfl⟩ rfl h.sz h.rd y
  have hR:=wR.of R b1 W U V (w▸P);have hle:H.next<=H3.next:=lT W.1 V.1;refine⟨.c (.bool (Nat.beq (qLo e) 0)),S3,ρ2,ve2,c,g2,_,h6.raise,trivial,y,?_⟩;have hx:=mH.of_round (ha ⟨_,_,_,_,_,R⟩) hR.raise (Nat.lt_succ_of_le hle);rw[w,SV.val,←j2];exact hx
end
def qAV(E:Env)(I:qFV):Prop:=∀g fn c,qAH I g=some (fn,c)->E.funcs.get g=some fn/\fn.body=some c
theorem qAV.nil{E:Env}:qAV E []:=λ_ _ _ h=>by cases h
theorem qAV.cons{E:Env}{f:FuncId}{fn:Func}{c:Code}{I:qFV}(e:E.funcs.get f=some fn)(b:fn.body=some c)(h:qAV E I):qAV E ((f,fn,c)::I):=by
 intro g y d x;simp only[qAH,qZ]at x;split at x
 ·grind
 exact h g y d x
def qJm(n0:Lim)(Y:Option Site):Prop:=∀y,Y=some y->(n0.lps=y.ps/\n0.las=y.a/\n0.lbd=y.b/\n0.lfr.sz=y.sz)/\n0.frs[0]? = some n0.lfr
section
variable{E:Env}{n0:Lim}{H0:AH}{g0:zG}{S:St}{ρ:List D}{ve:Nat->Value}{lb:Nat->Nat}{g:zG}{fr:Fr}{H:AH}{Q:Res1->Prop}{I:qFV}{Y:Option Site}
theorem qOG(he:EOk E)(P:qAV E I)(O:qJm n0 Y){o:Oper}{κ:K1}(h:SR E n0 H0 g0 S ρ ve lb g fr H)(x:wp E (Holds E) Q (qFT E I Y o S κ) ρ):mI E (Holds E) Q n0 H0 g0 fr H o κ:=by
 have e:wp E (Holds E) Q (vZ E o S κ) ρ->mI E (Holds E) Q n0 H0 g0 fr H o κ:=λx=>(eU h x).toR;unfold qFT at x;split at x;case h_2=>exact qOH h x
 rename_i c B;split at x;case h_2=>exact e x
 rename_i f p C j;obtain⟨G,F⟩:=rL (E:=E) h j;split at x
 ·rename_i L i;obtain⟨A,l⟩:=zQ (E:=E) h i;split at x;case h_2=>cases x
  rename_i y;obtain⟨w,q⟩:=jC x;clear x;simp only[zR]at w;have R:=vP w.1;subst R;obtain⟨M,K⟩:=O y rfl;refine qLd he h M K G (λ⟨pd,t,a,b,r,N⟩=>?_) q;simp only[SV.val]at l;have u:Nat.beq y.ps.length (SV.vals ve lb p).length=true:=by rw[SV.vals_map,List.length_map];exact w.2
  unfold v9;rw[B];simp only[kD,F,C,l,N,u,cond_true]
 ·rename_i U first cap i
  obtain⟨A,l⟩:=zQ (E:=E) h i;split at x;case h_2=>exact e x
  rename_i fn V u;obtain⟨k,z⟩:=P _ _ _ u;refine qW2 he h k z ?_ ?_ x
  ·rw[SV.bds_iff]at G ⊢;have f1:=SV.bds_iff.1 A.1;have f2:=SV.bds_iff.1 A.2;grind
  simp only[SV.val]at l;unfold v9;rw[B];simp only[kD,F,C,l,pK,k,yS]
 exact e x
end
abbrev Qf(E:Env)(Ts:Nat->Tree)(d:D)(n:Nat):Res1->Prop:=λr=>match r with
 |.ret d'=>d'=d
 |.jump k' ds=>qW7 E (Holds E) Ts n k' ds d
section
variable{E:Env}{n0:Lim}{H0:AH}{g0:zG}{Ts:Nat->Tree}{d:D}{J:Nat->St->Tree}{OP:qKV}{RG:qQR}{at0:Nat}{c0:Code}{κ0:KC}
theorem fH(he:EOk E)(N:qMv E n0 H0 g0 (Qf E Ts d) OP)(M:fT E n0 H0 g0 (Qf E Ts d) J OP RG at0 c0 κ0){pats:Nat->Pat}{szs:Nat->Nat}{RH:Array Tmp->Code->Code->KC->List (Nat×Tree)}(F:J=λk S=>jI (szs k) (pats k) k S)(L:∀x∈j5 E (λk=>(pats k).st (szs k)) J OP RG RH at0 c0 κ0,Ts x.1=x.2)(C:∀k κ b,Place E J OP RG at0 c0 κ0 k (.loop b) κ->n0.F.length<=(pats k).blks.length):
  ∀n m,m<=n->qJp E n0 H0 g0 (Qf E Ts d) J OP RG at0 c0 κ0 m
 |0,m,hm=>by
  intro k b κ l S ρ ve lb g fr H h r
  rw[Nat.le_zero.1 hm,F]at r
  obtain⟨ds,o,g',_,w⟩:=qBg h r (C k κ b l)
  cases w
 | n+1,m,hm=>by
  have u:=fH he N M F L C n
  rcases Nat.lt_or_ge n m with O|A
  ·have:m=n+1:=by omega
   subst this
   intro k b κ l S ρ ve lb g fr H h r
   have p:=r
   rw[F]at p
   obtain⟨ds,o,g',R,w⟩:=qBg h p (C k κ b l)
   have B:Ts k=qAY E J OP RG (k+1) b ((pats k).st (szs k)) (iB J k κ):=by
    have:=qEg (P:=λk=>(pats k).st (szs k)) (RH:=RH) l (k,qAY E J OP RG (k+1) b ((pats k).st (szs k)) (iB J k κ)) (by simp only[j5];exact List.mem_cons_self)
    exact L _ this
   have q:wp E (Holds E) (Qf E Ts d n) (Ts k) ds:=w
   rw[B]at q
   refine qG4 ((nF he N M u b (k+1) _ l.loop n (vE _) _ ds o lb g' fr H R q).mono ?_)
   rintro e fr1 H1 ⟨t,z,K,y,c,i,g1,G,j⟩
   cases e with
   |normal=>exact(u t z k b κ l K y c i g1 fr1 H1 G j).mono (Kt.mono (by omega))
   |exit id=>exact⟨t,by omega,K,y,c,i,g1,G,j⟩
   |ret=>exact⟨t,by omega,K,y,c,i,g1,G,j⟩
  exact u m A
end
theorem qOn{E:Env}{J:Nat->St->Tree}{OP:qKV}{RG:qQR}{at0:Nat}{c0:Code}{κ0:KC}{n:Nat}{c:Code}{κ:KC}(h:Place E J OP RG at0 c0 κ0 n c κ):at0<=n:=by
 induction h with
 |root=>exact vE _
 |seqL _ x=>exact x
 |seqR _ x=>exact lT x (Nat.le_add_right _ _)
 |condL _ x=>exact x
 |condR _ x=>exact lT x (Nat.le_add_right _ _)
 |block _ x=>exact x
 |loop _ x=>exact Nat.le_succ_of_le x
 |scope _ x=>exact x
theorem qB6{l:List (Option Blk)}(h:l.all fG=true){b:Nat}{x:Blk}(y:l[b]? = some (some x)):x.isL=false:=by
 rw[List.all_eq_true]at h;have:=h _ (List.mem_of_getElem? y);cases x with
 |loop _ _=>cases this
 |tcells _ _=>cases this
 |cells _=>rfl
 |whole _ _=>rfl
theorem qOq{x:Option (Option Blk)}{st pd:Nat}(h:qRA x=some (st,pd)):x=some (some (.loop st pd)):=by
 unfold qRA at h;split at h
 ·cases h;rfl
 cases h
theorem qL0(pd:Nat):(qDv pd=none/\qAh pd=.normal)∨(qDv pd=some .ret/\qAh pd=.ret)∨∃id,qDv pd=some (.exit id)/\qAh pd=.exit id:=by
 match pd with
 |0=>exact .inl ⟨rfl,rfl⟩
 |1=>exact .inr (.inl ⟨rfl,rfl⟩)
 |n+2=>exact .inr (.inr ⟨n,rfl,rfl⟩)
theorem qK5{st:Nat}(h:Nat.beq st 1=false):qK6 st≠.busy:=by
 match st with
 |0=>simp[qK6]
 |1=>cases h
 |n+2=>simp[qK6]
section
variable{E:Env}{n0:Lim}{H0:AH}{g0:zG}{S:St}{ρ:List D}{ve:Nat->Value}{lb:Nat->Nat}{g:zG}{fr:Fr}{H:AH}{I:qFV}
theorem SR.drop(h:SR E n0 H0 g0 S ρ ve lb g fr H)(b:Nat):SR E n0 H0 g0 {S with blks:=S.blks.set b none} ρ ve lb g fr H:=by
 have k:∀c x,(S.blks.set b none)[c]? = some (some x)->S.blks[c]? = some (some x)/\c≠b:=by
  intro c x j;rw[List.getElem?_set]at j;split at j
  ·split at j<;>cases j
  ·rename_i q;exact⟨j,λe=>q e.symm⟩
 have lv:∀c,St.live {S with blks:=S.blks.set b none} c->S.live c:=λc ⟨x,l⟩=>⟨x,(k c x l).1⟩;have y:(S.blks.set b none).length=S.blks.length:=by simp
 refine { len:=h.len,wf:=h.wf,mem:=h.mem,base:=h.base,fix:=⟨by rw[y];exact h.fix.1,h.fix.2⟩,vars:=h.vars,blks:=?_,sepLG:=λc j=>h.sepLG c (lv c j),sepFG:=h.sepFG,sepL:=λc d j hd=>h.sepL c d (lv c j) (lv d hd),sepF:=h.sepF,sepX:=λc i j=>h.sepX c i (lv c j),
          sz:=h.sz,rd:=h.rd,slots:=?_,sav:=by rw[y];exact h.sav,keep:=h.keep,gk:=h.gk,low:=h.low,tab:=h.tab}
 ·intro c x l;obtain⟨p,o⟩:=h.blks c x (k c x l).1;exact⟨by rw[y];exact p,o⟩
 ·intro t x l;obtain⟨p,o⟩:=h.slots t x l;exact⟨by rw[y];exact p,o⟩
theorem SR.dropIts(h:SR E n0 H0 g0 S ρ ve lb g fr H):SR E n0 H0 g0 {S with blks:=noIts S.blks} ρ ve lb g fr H:=by
 have inv:∀(c:Nat) (x:Blk),(Go.Am.noIts S.blks)[c]? = some (some x)->S.blks[c]? = some (some x):=by
  intro c x b;unfold Go.Am.noIts at b;rw[List.getElem?_map]at b;cases o:S.blks[c]? with
  |none=>rw[o]at b;cases b
  |some y=>
   rw[o]at b;simp only[Option.map_some,oI]at b;split at b
   ·cases b
   ·rw[b]
 have lv:∀c,St.live {S with blks:=Go.Am.noIts S.blks} c->S.live c:=λc ⟨x,j⟩=>⟨x,inv c x j⟩;have e:(Go.Am.noIts S.blks).length=S.blks.length:=by simp[Go.Am.noIts]
 refine { len:=h.len,wf:=h.wf,mem:=h.mem,base:=h.base,fix:=⟨by rw[e];exact h.fix.1,h.fix.2⟩,vars:=h.vars,blks:=?_,sepLG:=λc b=>h.sepLG c (lv c b),sepFG:=h.sepFG,sepL:=λc d b hd=>h.sepL c d (lv c b) (lv d hd),sepF:=h.sepF,sepX:=λc i b=>h.sepX c i (lv c b),
          sz:=h.sz,rd:=h.rd,slots:=?_,sav:=by rw[e];exact h.sav,keep:=h.keep,gk:=h.gk,low:=h.low,tab:=h.tab}
 ·intro c x j;obtain⟨l,k⟩:=h.blks c x (inv c x j);exact⟨by rw[e];exact l,k⟩
 ·intro t x j;obtain⟨l,k⟩:=h.slots t x j;exact⟨by rw[e];exact l,k⟩
theorem SR.dropW(h:SR E n0 H0 g0 S ρ ve lb g fr H){b:Nat}{x:Blk}(w:S.blks[b]? = some (some x)){r o:AObj}{rt:Nat}(t:H.blocks.get (lb b)=some ⟨r,rt,true⟩)(q:n0.own (lb b) rt):SR E n0 H0 g0 {S with blks:=S.blks.set b none} ρ ve lb g fr (H.write (lb b) ⟨r,rt,true⟩ o):=by
 have j:S.live b:=⟨x,w⟩;refine(h.drop b).heap2 (X:=(·= lb b)) (λc k l=>by rw[AH.get_write,if_neg l]) (λc k=>by subst k;exact h.sepLG b j) (λc d k hd e=>?_) (λc i k u=>by subst k;exact h.sepX b i j u) (λc k=>by subst k;exact(xQ h.toSM j).2) (h.wf.write t _) (vE _) ?_
 ·subst k;obtain⟨y,p⟩:=hd;simp only[List.getElem?_set]at p;split at p
  ·split at p<;>cases p
  rename_i l;exact l (h.sepL d b ⟨y,p⟩ j e).symm
 show _<=Nat.min H.low rt;exact Nat.le_min.2 ⟨h.low,lT (Nat.min_le_right _ _) q.1⟩
theorem qLi(he:EOk E)(hI:qAV E I){Ts:Nat->Tree}{d:D}{J:Nat->St->Tree}{c0:Code}{κ0:KC}{G:FuncId}{fnG:Func}{cdG:Code}{sz L u at0:Nat}{pats:Nat->Pat}{szs:Nat->Nat}(hG:qAH I G=some (fnG,cdG))(hrd0:n0.rd=false)(hJ:J=λk S=>jI (szs k) (pats k) k S)(hT:∀x∈j5 E (λk=>(pats k).st (szs k)) J (qFT E I none) (nL E J I G sz L u) (qBW E (λk=>(pats k).st (szs k)) J I cdG sz L u) at0 c0 κ0,Ts x.1=x.2)(hP:∀k,u<=k->L+1<=(pats k).blks.length):fT E n0 H0 g0 (Qf E Ts d) J (qFT E I none) (nL E J I G sz L u) at0 c0 κ0:=by
 intro k f q a b κ hc n S ρ ve lb g fr H h p;unfold nL at p;split at p;case h_2=>cases p
 rename_i gf first cap fn cd hfv hlk
 rw[hG]at hlk;cases hlk;obtain⟨C,hw2⟩:=jC p;clear p;simp only[zR]at C;obtain⟨⟨⟨⟨hgG,hlen⟩,N⟩,hnl⟩,hres⟩:=C;have hgG:=vP hgG;have hlen:=vP hlen;have N:=vP N;subst hgG;obtain⟨hfn,hbd⟩:=hI _ _ _ hG;obtain⟨fb,fe⟩:=zQ (E:=E) h hfv;simp only[SV.val]at fe;have hfrd:fr.rd=false:=by rw[h.rd];exact hrd0
 have hA:SR E {n0 with lfr:=fr,lps:=q.toList,las:=a,lbd:=b} H0 g0 S ρ ve lb g fr H:=h.refr (n1:={n0 with lfr:=fr,lps:=q.toList,las:=a,lbd:=b}) (S':=S) rfl rfl h.fix (.inr λb x i=>qB6 hnl i) rfl rfl h.sz h.rd h.slots h.sav;have hB:=hA.allocO (o:=.loop .ready none ⟨fr.sz,true,fr.t⟩ q.toList a b) (x:=.loop 0 0) trivial (λbs h1 h2=>⟨_,h1,h2⟩);have A:qDq lb S.blks.length H.next L=H.next:=by rw[←hlen];exact if_pos rfl
 have w:∀k,k<L->qDq lb S.blks.length H.next k=lb k:=λk B=>if_neg (by omega);generalize hlb':qDq lb S.blks.length H.next=c at hB A w;have hbl:(S.blks++[some (Blk.loop 0 0)]).length=L+1:=by simp[hlen]
 have hbF:SV.bds S.n (L+1) first:=SV.bds_mono (vE _) (by omega) fb.1
 have hbC:SV.bds S.n (L+1) cap:=SV.bds_mono (vE _) (by omega) fb.2;have hargs:SV.bds S.n (S.blks++[some (Blk.loop 0 0)]).length (first++[SV.yld L]++cap):=by
  rw[hbl];rw[SV.bds_iff]at hbF hbC ⊢;intro x i;rcases List.mem_append.1 i with i|i
  ·rcases List.mem_append.1 i with i|i
   ·exact hbF x i
   simp only[List.mem_singleton]at i;subst i;exact Nat.lt_succ_self L
  exact hbC x i
 have hvF:SV.vals ve c first=SV.vals ve lb first:=SV.vals_congr (m:=L) (λ_ _=>rfl) w (by rw[←hlen];exact fb.1)
 have hvC:SV.vals ve c cap=SV.vals ve lb cap:=SV.vals_congr (m:=L) (λ_ _=>rfl) w (by rw[←hlen];exact fb.2);have W:SV.vals ve c (first++[SV.yld L]++cap)=SV.vals ve lb first++[.func (.yield H.next) #[] #[]]++SV.vals ve lb cap:=by rw[yS,yS,hvF,hvC];simp only[SV.vals,SV.val,A]
 have hvl:(SV.vals ve c (first++[SV.yld L]++cap)).length=(first++[SV.yld L]++cap).length:=by rw[SV.vals_map,List.length_map]
 let n1:Lim:={n0 with frs:=fr::n0.frs,rd:=false,lfr:=fr,lps:=q.toList,las:=a,lbd:=b,F:=(List.range (L+1)).map c};have hFk:∀k,k<L+1->n1.F[k]? = some (c k):=λk B=>by show((List.range (L+1)).map c)[k]? = _;rw[List.getElem?_map,List.getElem?_range B];rfl
 have hC:SR E n1 H0 g0 {S with slots:=T.ofList .leaf 0 (first++[SV.yld L]++cap),sz:=Nat.max fnG.ntmps (first++[SV.yld L]++cap).length,sav:=lD S.slots S.sz::S.sav,blks:=S.blks++[some (.loop 0 0)]} ρ ve c g
   ⟨Nat.max fnG.ntmps (SV.vals ve c (first++[SV.yld L]++cap)).length,false,T.ofList .leaf 0 (SV.vals ve c (first++[SV.yld L]++cap))⟩ (H.new (.loop .ready none ⟨fr.sz,true,fr.t⟩ q.toList a b)):=by
  refine hB.refr (n1:=n1) (S':={S with slots:=T.ofList .leaf 0 (first++[SV.yld L]++cap),sz:=Nat.max fnG.ntmps (first++[SV.yld L]++cap).length,sav:=lD S.slots S.sz::S.sav,blks:=S.blks++[some (.loop 0 0)]})
   rfl rfl ⟨by simp only[n1,List.length_map,List.length_range];exact Nat.le_of_eq hbl.symm,λk a B=>?_⟩ (.inl ⟨rfl,rfl,rfl,rfl⟩) rfl rfl (by simp only[hvl]) rfl (qDd hargs) (dA.push hB)
  have hlt:k<L+1:=by have:=(gI B).1;simpa[n1]using this
  rw[hFk k hlt]at B;cases B;rfl
 have hYok:qJm n1 (some ⟨q.toList,a,b,sz,L⟩):=by intro y hy;cases hy;exact⟨⟨rfl,rfl,rfl,by show fr.sz=sz;rw[h.sz];exact N⟩,rfl⟩
 have hOg:qMv E n1 H0 g0 (Qf E Ts d) (qFT E I (some ⟨q.toList,a,b,sz,L⟩)):=λm o S ρ ve lb g fr H κ h p=>qOG he hI hYok h p;have hRg:fT E n1 H0 g0 (Qf E Ts d) J (qFT E I (some ⟨q.toList,a,b,sz,L⟩)) qAZ u cdG (qKu ⟨q.toList,a,b,sz,L⟩ κ):=λ_ _ _ _ _ _ _ _ _ _ _ _ _ _ _ _ p=>by cases p
 have hTg:∀x∈j5 E (λk=>(pats k).st (szs k)) J (qFT E I (some ⟨q.toList,a,b,sz,L⟩)) qAZ (λ_ _ _ _=>[]) u cdG (qKu ⟨q.toList,a,b,sz,L⟩ κ),Ts x.1=x.2:=by intro x i;exact hT x (qEg hc x (by simp only[j5];exact i))
 have hjg:=fH (n0:=n1) (H0:=H0) (g0:=g0) (d:=d) he hOg hRg hJ hTg (λk κ b hp=>by have:=hP k (qOn hp);simp only[n1,List.length_map,List.length_range];exact this);obtain⟨e,frg,H2,i,m,hm,M,ρ2,ve2,z,g2,h2,p⟩:=nF (n0:=n1) he hOg hRg (hjg n) cdG u _ .root n (vE _) _ _ _ _ _ _ _ hC hw2;have O:(e=.normal∨e=.ret)->wp E (Holds E) (Qf E Ts d m) (match M.sav,qRA M.blks[L]? with
   |l::r,some (st,pd)=>bif Nat.beq st 1 then .fail else
    bif (noIts (M.blks.set L none)).all fG then κ (qAh pd) {M with slots:=qRR l,sz:=sz,sav:=r,blks:=noIts (M.blks.set L none)}else .fail
   |_,_=>.fail) ρ2->Fin E (.rangeFunc f q a b) (Kt E n0 H0 g0 (Qf E Ts d) n κ) fr H:=by
  intro hee p
  split at p
  case h_2=>cases p
  rename_i l r st pd P hpd
  have hbk:=qOq hpd
  rw[cond_eq_ite]at p
  split at p
  ·cases p
  rename_i X
  have X:Nat.beq st 1=false:=by cases hb:Nat.beq st 1 with
   |false=>rfl
   |true=>exact absurd hb X
  obtain⟨hnl2,p⟩:=jC p
  obtain⟨_,rt,u2,u3⟩:=h2.blks L _ hbk
  have R:∀k,k<L+1->z k=c k:=λk B=>h2.fix.2 k _ (hFk k B)
  have Z:z L=H.next:=by rw[R L (Nat.lt_succ_self _)];exact A
  have V:H2.blocks.get (z L)=some ⟨.loop (qK6 st) (qDv pd) ⟨fr.sz,true,fr.t⟩ q.toList a b,rt,true⟩:=u2
  have K:jV E gf (SV.vals ve c (first++[SV.yld L]++cap)) (H.new (.loop .ready none ⟨fr.sz,true,fr.t⟩ q.toList a b)) (.tuple ⟨[]⟩) H2:=by
   refine vC.call he hfn hbd i hee ?_
   have:fnG.results.toList=[]:=by simpa using hres
   rw[this];rfl
  have hdw:=(h2.dropW hbk V u3 (o:=.loop .exhausted (qDv pd) ⟨fr.sz,true,fr.t⟩ q.toList a b)).dropIts
  have U:SR E n0 H0 g0 {M with slots:=qRR l,sz:=sz,sav:=r,blks:=noIts (M.blks.set L none)} ρ2 ve2 z g2 fr (H2.write (z L) ⟨.loop (qK6 st) (qDv pd) ⟨fr.sz,true,fr.t⟩ q.toList a b,rt,true⟩ (.loop .exhausted (qDv pd) ⟨fr.sz,true,fr.t⟩ q.toList a b)):=by
   refine hdw.refr (n1:=n0) (S':={M with slots:=qRR l,sz:=sz,sav:=r,blks:=noIts (M.blks.set L none)}) rfl rfl ⟨?_,λk a B=>?_⟩ (.inr λb x i=>qB6 hnl2 i) rfl rfl (by rw[h.sz];exact N) h.rd ?_ ?_
   ·have q1:=h.fix.1
    have q2:=h2.fix.1
    simp only[n1,List.length_map,List.length_range]at q2
    simp only[noIts,List.length_map,List.length_set];omega
   ·have hlt:k<S.blks.length:=Nat.lt_of_lt_of_le (gI B).1 h.fix.1
    rw[R k (by omega),w k (by omega)]
    exact h.fix.2 k a B
   ·intro t x i
    obtain⟨q1,f,q2,q3⟩:=hdw.sav 0 l (by show M.sav[0]? = _;rw[P];rfl) t x (qFi i)
    cases q2
    exact⟨q1,q3⟩
   intro j l' hl t x i
   obtain⟨q1,f,q2,q3⟩:=hdw.sav (j+1) l' (by show M.sav[j+1]? = _;rw[P];simpa using hl) t x i
   exact⟨q1,f,by simpa[n1]using q2,q3⟩
  rw[Z]at V U
  rw[W]at K
  have hR:=vC.range (e:=qAh pd) he hfrd fe hfn K (by have:=i.1;exact this) V (qK5 X) (qL0 pd)
  exact⟨_,fr,_,hR,m,hm,_,ρ2,ve2,z,g2,U,p⟩
 cases e with
 |normal=>exact O (.inl rfl) p
 |ret=>exact O (.inr rfl) p
 |exit id=>cases p
theorem uX(he:EOk E)(hI:qAV E I){f:FuncId}{fn:Func}{c:Code}(Z:E.funcs.get f=some fn)(i:fn.body=some c){pats:Nat->Pat}{szs:Nat->Nat}{Ts:Nat->Tree}{ds:List D}{d:D}{n L:Nat}(hn:ds.length=n){G:FuncId}{fnG:Func}{cdG:Code}(hG:qAH I G=some (fnG,cdG))(h0:qAY E (λk S=>jI (szs k) (pats k) k S) (qFT E I none) (nL E (λk S=>jI (szs k) (pats k) k S) I G (Nat.max fn.ntmps n) L 1000) 1 c (yL n (Nat.max fn.ntmps n)) (mK E fn.results.toList)=Ts 0)(hT:∀x∈j5 E (λk=>(pats k).st (szs k)) (λk S=>jI (szs k) (pats k) k S) (qFT E I none) (nL E (λk S=>jI (szs k) (pats k) k S) I G (Nat.max fn.ntmps n) L 1000) (qBW E (λk=>(pats k).st (szs k)) (λk S=>jI (szs k) (pats k) k S) I cdG (Nat.max fn.ntmps n) L 1000) 1 c (mK E fn.results.toList),Ts x.1=x.2)(hP:∀k,1000<=k->L+1<=(pats k).blks.length)(l:qE E (Holds E) Ts 0 ds d)(j:f<cQ:=by decide):Holds E f ds d:=by
 refine .inl ⟨j,⟨fn,Z⟩,λH g C u X w hd=>?_⟩;have q:C.length=n:=by rw[hd.length,hn]
 have hs:=qBE (sz:=Nat.max fn.ntmps n) u X w hd q;obtain⟨m,l⟩:=l;cases m with
 |zero=>cases l
 | succ m=>
  have r:wp E (Holds E) (Qf E Ts d m) (Ts 0) ds:=l;rw[←h0]at r;have hY:qJm (Lim.of H.next) none:=λy hy=>by cases hy
  have hO:qMv E (Lim.of H.next) H g (Qf E Ts d) (qFT E I none):=λm o S ρ ve lb g fr H κ h N=>qOG he hI hY h N;have hR:=qLi (n0:=Lim.of H.next) (H0:=H) (g0:=g) (d:=d) he hI hG rfl rfl hT hP;have hj:=fH (n0:=Lim.of H.next) (H0:=H) (g0:=g) (d:=d) he hO hR rfl hT (λk κ b hp=>Nat.zero_le _) m;obtain⟨e,fr1,H1,W,m1,_,S1,F,K,M,g1,h1,N⟩:=nF he hO hR hj c 1 _ .root m (vE _) _ _ _ _ _ _ _ hs r;obtain⟨R,v,g',hv,U,z,p,O,hk,A,B⟩:=qFC (d:=d) (λd' V=>V) e S1 F K M g1 fr1 H1 h1 N;rw[←q]at W;have t:=vC.call he Z i W R hv;let g2:zG:=λb=>if b<H.next then g b else g' b;have P:zG.le g' g2:=by
   intro b k i;simp only[g2];split
   ·rename_i j;rw[←B b j];exact i
   exact i
  refine⟨v,{H1 with next:=H1.next+1},g2,t.raise,Nat.lt_succ_of_le O,λb k i=>⟨(p b k i).1,Nat.lt_succ_of_lt (p b k i).2⟩,hk,A,?_,?_,?_,U.mono P⟩
  ·intro b k i;simp only[g2];rw[if_pos (u b k (X b k i)).2];exact i
  ·intro b k i;simp only[g2]at i;split at i
   ·rename_i j;rw[←B b j]at i;exact z b k i
   exact z b k i
  intro b i;simp only[g2];rw[if_pos i]
end
end Go.Am
