/- Loops over functions in symbolic runs: the iterator's code runs in place, and so do the rounds and small callees. Conditions: none. -/
import Derived.Test.YtminhjecpnpaeaaGreatDoorSx4
set_option linter.unusedVariables false
set_option linter.unusedSimpArgs false
namespace Go.Am
open Go
def mG (t:T SV):Nat->List (Nat × SV)
 | 0=>[]
 | n+1=>match t.get n with
  | some x=>(n,x)::mG t n
  | none=>mG t n
def qPt (l:List (Nat × SV)):T SV:=l.foldl (fun t (p:Nat × SV)=>t.put p.1 (some p.2)) .leaf
def qDk:List SV->SV
 | [x]=>x
 | l=>.tup l
def qTL:Nat->St->Tree:=fun _ _=>.fail
abbrev qLk:=Oper->St->K1->Tree
def qKi (OP:qLk) (all:Array Oper):List Oper->St->(St->Tree)->Tree
 | [],S,κ=>κ S
 | o::os,S,κ =>
  qBQ all o S
   (fun S=>OP o S fun y S=>match S.put o.dst y with
    | some S=>qKi OP all os S κ
    | none=>.fail)
   (fun S=>match S.put o.dst (.tup []) with
    | some S=>qKi OP all os S κ
    | none=>.fail)
abbrev qOs:=Operand->Array Tmp->Code->Code->St->KC->Tree
def qHt:qOs:=fun _ _ _ _ _ _=>.fail
def qCK (E:Env) (J:Nat->St->Tree) (OP:qLk) (RG:qOs):Nat->Code->St->KC->Tree
 | at_,.seq a b,S,κ=>qCK E J OP RG at_ a S (qJ4 (fun S=>qCK E J OP RG (at_+nl a) b S κ) κ)
 | at_,.cond c a b,S,κ=>match rK S c with
  | some (.c (.bool true))=>qCK E J OP RG at_ a S κ
  | some (.c (.bool false))=>qCK E J OP RG (at_+nl a) b S κ
  | some (.v i)=>bif S.pureV i then .ite (.v i) (qCK E J OP RG at_ a (S.known i true) κ) (qCK E J OP RG (at_+nl a) b (S.known i false) κ) else .fail
  | _=>.fail
 | at_,.block id b,S,κ=>qCK E J OP RG at_ b S (bQ id κ)
 | at_,.loop _,S,_=>J at_ S
 | at_,.scope b,S,κ=>qCK E J OP RG at_ b S κ
 | _,.region id ops draw,S,κ=>bif draw then sx E qTL 1 (.region id ops draw) S κ else qKi OP ops ops.toList S (κ .normal)
 | _,.rangeFunc f ps a b,S,κ=>RG f ps a b S κ
 | _,.skip,S,κ=>κ .normal S
 | _,.label _,S,κ=>κ .normal S
 | _,.ret,S,κ=>κ .ret S
 | _,.exit id,S,κ=>κ (.exit id) S
 | _,_,_,_=>.fail
abbrev qG0:=List (FuncId × Func × Code)
def qAd:qG0->FuncId->Option (Func × Code)
 | [],_=>none
 | (f,fn,c)::r,g=>bif Nat.beq f g then some (fn,c) else qAd r g
def qU0 (E:Env) (I:qG0):qLk:=fun o S κ=>match o.op with
 | .makeFunc (.func g) first cap=>match qAd I g with
  | some _=>match cK S first.toList,cK S cap.toList with
   | some a,some b=>κ (.fn (.func g) a b) S
   | _,_=>.fail
  | none=>vZ E o S κ
 | _=>vZ E o S κ
def qXK (E:Env) (I:qG0):Code->St->KC->Tree:=qCK E qTL (qU0 E I) qHt 1
def qFo (E:Env) (κ:List SV->St->Tree) (S:St) (acc:List SV):List ResultVar->Tree
 | []=>κ acc S
 | .tmp t::r=>match S.slots.get t with
  | some x=>qFo E κ S (acc++[x]) r
  | none=>.fail
 | .cell a t::r=>match S.slots.get a with
  | some p=>qDp E t p S fun x S=>qFo E κ S (acc++[x]) r
  | none=>.fail
def qDQ (sz:Nat) (κ:K1) (xs:List SV) (S:St):Tree:=match S.sav with
 | l::r=>κ (qDk xs) { S with slots:=qPt l,sz:=sz,sav:=r }
 | []=>.fail
def qYu (E:Env) (rs:List ResultVar) (sz:Nat) (κ:K1):KC:=fun e S=>match e with
 | .normal=>qFo E (qDQ sz κ) S [] rs
 | .ret=>qFo E (qDQ sz κ) S [] rs
 | .exit _=>.fail
def qT0 (E:Env) (I:qG0) (fn:Func) (c:Code) (args:List SV) (S:St) (κ:K1):Tree :=
 qXK E I c { S with slots:=T.ofList .leaf 0 args,sz:=Nat.max fn.ntmps args.length,sav:=mG S.slots S.sz::S.sav } (qYu E fn.results.toList S.sz κ)
def qCs (sz:Nat):T SV->List Tmp->List SV->Option (T SV)
 | t,[],[]=>some t
 | t,p::ps,x::xs=>bif Nat.ble (p+1) sz then qCs sz (t.put p (some x)) ps xs else none
 | _,_,_=>none
structure Site where
 ps:List Tmp
 a:Code
 b:Code
 sz:Nat
 L:Nat
def qKh:AExit->Nat
 | .normal=>0
 | .ret=>1
 | .exit n=>n+2
def qAO:Option (Option Blk)->Bool
 | some (some (.loop 0 0))=>true
 | _=>false
def qHF:Option (Option Blk)->Bool
 | some (some (.loop 1 0))=>true
 | _=>false
def qSQ (Y:Site) (sz:Nat) (κ:K1):KC:=fun e S =>
 bif qHF S.blks[Y.L]? then qDQ sz κ [.c (.bool (Nat.beq (qKh e) 0))] (S.setBlk Y.L (.loop (bif Nat.beq (qKh e) 0 then 0 else 2) (qKh e))) else .fail
def qSI (E:Env) (I:qG0) (Y:Site) (sz:Nat) (κ:K1):KC:=fun e S=>match e with
 | .normal=>bif qAO S.blks[Y.L]? then qXK E I Y.b (S.setBlk Y.L (.loop 1 0)) (qSQ Y sz κ) else .fail
 | _=>.fail
def qHh (E:Env) (I:qG0) (Y:Site) (args:List SV) (S:St) (κ:K1):Tree :=
 bif qAO S.blks[Y.L]? then
  match S.sav with
  | l::r=>match qCs Y.sz (qPt l) Y.ps args with
   | some sl=>qXK E I Y.a { S with slots:=sl,sz:=Y.sz,sav:=mG S.slots S.sz::l::r } (qSI E I Y S.sz κ)
   | none=>.fail
  | []=>.fail
 else .fail
def qIV (E:Env) (I:qG0) (Y:Option Site):qLk:=fun o S κ=>match o.op with
 | .call c=>match c.callee,cK S c.args.toList with
  | .value f,some args=>match rK S f with
   | some (.yld L)=>match Y with
    | some Y=>bif Nat.beq L Y.L && Nat.beq Y.ps.length args.length then qHh E I Y args S κ else .fail
    | none=>.fail
   | some (.fn (.func g) first cap)=>match qAd I g with
    | some (fn,cd)=>qT0 E I fn cd (first++args++cap) S κ
    | none=>vZ E o S κ
   | _=>vZ E o S κ
  | _,_=>vZ E o S κ
 | _=>qU0 E I o S κ
def tW:Nat->AExit
 | 0=>.normal
 | 1=>.ret
 | n+2=>.exit n
def qPd:Option (Option Blk)->Option (Nat × Nat)
 | some (some (.loop st pd))=>some (st,pd)
 | _=>none
def noIts (l:List (Option Blk)):List (Option Blk):=l.map fun b=>match b with
 | some (.tcells _ _)=>none
 | x=>x
def qJt (Y:Site) (κ:KC):KC:=fun e S=>match e with
 | .exit _=>.fail
 | _=>match S.sav,qPd S.blks[Y.L]? with
  | l::r,some (st,pd)=>bif Nat.beq st 1 then .fail else
    bif (noIts (S.blks.set Y.L none)).all eC then κ (tW pd) { S with slots:=qPt l,sz:=Y.sz,sav:=r,blks:=noIts (S.blks.set Y.L none) } else .fail
  | _,_=>.fail
def fT (E:Env) (J:Nat->St->Tree) (I:qG0) (G:FuncId) (sz L at0:Nat):qOs:=fun f ps a b S κ =>
 match rK S f,qAd I G with
 | some (.fn (.func g) first cap),some (fn,cd) =>
  bif Nat.beq g G && Nat.beq S.blks.length L && Nat.beq S.sz sz && S.blks.all eC && fn.results.toList.isEmpty then
   qCK E J (qIV E I (some ⟨ps.toList,a,b,sz,L⟩)) qHt at0 cd { S with slots:=T.ofList .leaf 0 (first++[SV.yld L]++cap),sz:=Nat.max fn.ntmps (first++[SV.yld L]++cap).length,sav:=mG S.slots S.sz::S.sav,blks:=S.blks++[some (.loop 0 0)] } (qJt ⟨ps.toList,a,b,sz,L⟩ κ)
  else .fail
 | _,_=>.fail
def xI (E:Env) (P:Nat->St) (J:Nat->St->Tree) (OP:qLk) (RG:qOs) (RH:Array Tmp->Code->Code->KC->List (Nat × Tree)):Nat->Code->KC->List (Nat × Tree)
 | at_,.seq a b,κ=>xI E P J OP RG RH at_ a (qJ4 (fun S=>qCK E J OP RG (at_+nl a) b S κ) κ)++xI E P J OP RG RH (at_+nl a) b κ
 | at_,.cond _ a b,κ=>xI E P J OP RG RH at_ a κ++xI E P J OP RG RH (at_+nl a) b κ
 | at_,.block id b,κ=>xI E P J OP RG RH at_ b (bQ id κ)
 | at_,.loop b,κ=>(at_,qCK E J OP RG (at_+1) b (P at_) (fB J at_ κ))::xI E P J OP RG RH (at_+1) b (fB J at_ κ)
 | at_,.scope b,κ=>xI E P J OP RG RH at_ b κ
 | _,.rangeFunc _ ps a b,κ=>RH ps a b κ
 | _,_,_=>[]
def qHj (E:Env) (P:Nat->St) (J:Nat->St->Tree) (I:qG0) (cd:Code) (sz L at0:Nat):Array Tmp->Code->Code->KC->List (Nat × Tree):=fun ps a b κ =>
 xI E P J (qIV E I (some ⟨ps.toList,a,b,sz,L⟩)) qHt (fun _ _ _ _=>[]) at0 cd (qJt ⟨ps.toList,a,b,sz,L⟩ κ)
end Go.Am
namespace Go.Am
open Go
theorem tH {t:T SV}:∀ {n u:Nat} {x:SV},(u,x)∈mG t n->t.get u=some x
 | 0,_,_,h=>by cases h
 | n+1,u,x,h=>by
  simp only [mG] at h
  split at h
  ·rename_i y hy
   rcases List.mem_cons.1 h with e | h
   ·cases e; exact hy
   exact tH h
  exact tH h
theorem qEr {l:List (Nat × SV)} {t:Nat} {x:SV} (h:(qPt l).get t=some x):(t,x)∈l:=by
 rcases qBV l .leaf h with h | h
 ·exact h
 cases h
theorem wK.raise {E:Env} {l:Nat} {args:List Value} {H H':AH} {v:Value} (h:wK E l args H v H'):wK E l args H v { H' with next:=H'.next+1 }:=by
 intro σ w args' L lo hr hv hf hs hw hl c cs
 obtain ⟨σ',w',v',g1,s,g3⟩:=h σ w args' L lo hr hv (fun b h1 h2=>hf b h1 (Nat.lt_succ_of_lt h2)) hs hw hl c cs
 have st:Step E σ H w σ' { H' with next:=H'.next+1 } w':=by
  refine ⟨⟨s.hr.objs,s.hr.sep,s.hr.glob,fun b k hb=>?_⟩,Nat.le_succ_of_le s.next,fun b hb=>?_,s.size,s.low,s.tape,s.os,s.output,s.frame,s.origin,s.old,s.keep,s.born⟩
  ·exact ⟨(s.hr.wf b k hb).1,Nat.lt_succ_of_lt (s.hr.wf b k hb).2⟩
  refine s.ext b ?_
  rcases hb with hb | hb
  ·exact .inl hb
  exact .inr (Nat.le_of_succ_le hb)
 exact ⟨σ',w',v',g1,st,g3⟩
theorem nN.of_round {E:Env} {fr:Fr} {o:Oper} {H H':AH} {l:Nat} {args:List Value} {v:Value} (ha:jH E fr o H=some (.round l args,H)) (hc:wK E l args H v H') (hn:H.next < H'.next):nN E fr o H v H':=by
 refine ⟨Nat.le_of_lt hn,[{ f:=l,args:=args,H:=H,v:=v,H':=H',rnd:=true }],⟨⟨hn,hc⟩,lR _,trivial⟩,fun a ha=>?_,fun ih hg=>?_⟩
 ·simp only [List.mem_singleton] at ha; subst ha; exact lR _
 have:=hg _ (List.mem_singleton.2 rfl)
 simp only [jI.cmd] at this
 simp only [vS,ha]
 rw [this]
section
variable {E:Env} {n0:Lim} {H0:AH} {g0:zG} {S:St} {ρ:List D} {ve:Nat->Value} {lb:Nat->Nat} {g:zG} {fr:Fr} {H:AH} {Q:Res1->Prop} {HS:FuncId->List D->D->Prop}
theorem SR.refr (h:SR E n0 H0 g0 S ρ ve lb g fr H) {n1:Lim} (e1:n1.n=n0.n) (e2:n1.K=n0.K) (e3:n1.F.length<=S.blks.length/\∀ k a,n1.F[k]? = some a->lb k=a)
  (hl:(n1.lfr=n0.lfr/\n1.lps=n0.lps/\n1.las=n0.las/\n1.lbd=n0.lbd)∨∀ (b:Nat) (x:Blk),S.blks[b]? = some (some x)->x.isL=false)
  {S':St} (s1:S'.sts=S.sts) (s2:S'.blks=S.blks) {fr':Fr} (f1:fr'.sz=S'.sz) (f2:fr'.rd=n1.rd)
  (f3:∀ t x,S'.slots.get t=some x->x.bd S.n S.blks.length/\fr'.t.get t=some (x.val ve lb)) (f4:cF n1.frs S'.sav S.n S.blks.length ve lb):SR E n1 H0 g0 S' ρ ve lb g fr' H:=by
 obtain ⟨n,K,F,frs,rd,lfr,lps,las,lbd⟩:=n1
 obtain ⟨n',K',F',frs',rd',lfr',lps',las',lbd'⟩:=n0
 simp only at e1 e2 e3 hl f2 f4
 subst e1 e2
 obtain ⟨sts,slots,blks,sz,sav⟩:=S
 obtain ⟨sts',slots',blks',sz',sav'⟩:=S'
 simp only at s1 s2
 subst s1 s2
 refine { len:=h.len,wf:=h.wf,mem:=h.mem,base:=h.base,fix:=e3,vars:=?_,blks:=?_,sepLG:=h.sepLG,sepFG:=h.sepFG,sepL:=h.sepL,sepF:=h.sepF,sepX:=h.sepX,sz:=f1,rd:=f2,slots:=f3,sav:=f4,keep:=h.keep,gk:=h.gk,low:=h.low,tab:=h.tab }
 ·intro i s hs
  have:=h.vars i s hs
  obtain ⟨k,oo⟩:=s
  refine ⟨this.1,?_⟩
  have h2:=this.2
  cases k <;> try exact h2
  rcases h2 with q | ⟨B,l,cs,vs,el,rt,sz,es,q⟩ | ⟨B,es,ck,rt,ks,dd,q⟩
  ·exact .inl q
  ·exact .inr (.inl ⟨B,l,cs,vs,el,rt,sz,es,{ q with rt:=q.rt }⟩)
  exact .inr (.inr ⟨B,es,ck,rt,ks,dd,{ q with rt:=q.rt }⟩)
 intro b x hx
 obtain ⟨q1,q2⟩:=h.blks b x hx
 refine ⟨q1,?_⟩
 rcases hl with ⟨rfl,rfl,rfl,rfl⟩ | hl
 ·cases x with
  | loop st pd=>exact q2
  | tcells _ _=>exact q2
  | cells _=>exact q2
  | whole _ _=>exact q2
 obtain ⟨el,rt,cs,r1,r2,r3⟩:=q2.cells (hl b x hx)
 exact .ofCells (hl b x hx) ⟨el,rt,cs,r1,r2,r3⟩
theorem SR.raise (h:SR E n0 H0 g0 S ρ ve lb g fr H):SR E n0 H0 g0 S ρ ve lb g fr { H with next:=H.next+1 } :=
 h.heap (H':={ H with next:=H.next+1 }) (fun _ _=>rfl) (fun b k hb=>⟨(h.wf b k hb).1,Nat.lt_succ_of_lt (h.wf b k hb).2⟩) (Nat.le_succ _) h.low
theorem cF.push (h:SR E n0 H0 g0 S ρ ve lb g fr H):cF (fr::n0.frs) (mG S.slots S.sz::S.sav) S.n S.blks.length ve lb:=by
 intro j l hl t x hx
 cases j with
 | zero =>
  simp only [List.getElem?_cons_zero,oI] at hl
  subst hl
  obtain ⟨q1,q2⟩:=h.slots t x (tH hx)
  exact ⟨q1,fr,rfl,q2⟩
 | succ j =>
  obtain ⟨q1,f,q2,q3⟩:=h.sav j l (by simpa using hl) t x hx
  exact ⟨q1,f,by simpa using q2,q3⟩
def Kq (E:Env) (n0:Lim) (H0:AH) (g0:zG) (Q:Res1->Prop) (κ:KC):g8:=fun e fr H=>∃ S ρ ve lb g,SR E n0 H0 g0 S ρ ve lb g fr H/\wp E (qB E) Q (κ e S) ρ
theorem qTi (he:EOk E) {c:Code} {κ:KC} (h:SR E n0 H0 g0 S ρ ve lb g fr H) (hw:wp E (qB E) Q (sx E qTL 1 c S κ) ρ):Fin E c (Kq E n0 H0 g0 Q κ) fr H:=by
 refine cQ (c0:=c) (κ0:=κ) (K0:=Kq E n0 H0 g0 Q κ) (J:=qTL) he (fun k b κ K hc S ρ ve lb g fr H h hw=>by cases hw) c 1 κ (Kq E n0 H0 g0 Q κ) .root ?_ S ρ ve lb g fr H h hw
 intro e S ρ ve lb g fr H h hw
 exact ⟨S,ρ,ve,lb,g,h,hw⟩
def sX (E:Env) (HS:FuncId->List D->D->Prop) (Q:Res1->Prop) (n0:Lim) (H0:AH) (g0:zG) (fr:Fr) (H:AH) (o:Oper) (κ:K1):Prop :=
 ∃ y S' ρ' ve' lb' g' H',SR E n0 H0 g0 S' ρ' ve' lb' g' fr H'/\y.bd S'.n S'.blks.length/\wp E HS Q (κ y S') ρ'/\nN E fr o H (y.val ve' lb') H'
theorem jS.toR {wm:Bool} {o:Oper} {κ:K1} (h:jS wm E HS Q n0 H0 g0 fr H o κ):sX E HS Q n0 H0 g0 fr H o κ:=by
 obtain ⟨y,S',ρ',ve',lb',g',H',h1,h2,h3,h4,_⟩:=h
 exact ⟨y,S',ρ',ve',lb',g',H',h1,h2,h3,h4⟩
theorem qEh {κ:List SV->St->Tree}:∀ (rs:List ResultVar) (acc:List SV) {S:St} {ρ:List D} {ve:Nat->Value} {lb:Nat->Nat} {g:zG} {fr:Fr} {H:AH},SR E n0 H0 g0 S ρ ve lb g fr H->SV.bds S.n S.blks.length acc->wp E HS Q (qFo E κ S acc rs) ρ ->
  ∃ S' ρ' ve' g' vs xs,SR E n0 H0 g0 S' ρ' ve' lb g' fr H/\vL E fr H rs=some vs/\SV.bds S'.n S'.blks.length xs/\SV.vals ve' lb xs=SV.vals ve lb acc++vs/\wp E HS Q (κ xs S') ρ'
 | [],acc,S,ρ,ve,lb,g,fr,H,h,hb,hw=>⟨S,ρ,ve,g,[],acc,h,rfl,hb,by rw [List.append_nil],hw⟩
 | .tmp t::rs,acc,S,ρ,ve,lb,g,fr,H,h,hb,hw=>by
  simp only [qFo] at hw
  split at hw
  ·rename_i x hx
   obtain ⟨q1,q2⟩:=h.slots t x hx
   obtain ⟨S',ρ',ve',g',vs,xs,r1,r2,r3,r4,r5⟩:=qEh rs (acc++[x]) h (by
    rw [SV.bds_iff] at hb ⊢
    intro u hu
    rcases List.mem_append.1 hu with hu | hu
    ·exact hb u hu
    simp only [List.mem_singleton] at hu; subst hu; exact q1) hw
   refine ⟨S',ρ',ve',g',x.val ve lb::vs,xs,r1,by simp only [vL,q2,r2,Option.map_some],r3,?_,r5⟩
   rw [yO] at r4
   simpa [SV.vals] using r4
  cases hw
 | .cell a t::rs,acc,S,ρ,ve,lb,g,fr,H,h,hb,hw=>by
  simp only [qFo] at hw
  split at hw
  ·rename_i p hp
   obtain ⟨q1,q2⟩:=h.slots a p hp
   obtain ⟨y,S1,ρ1,ve1,g1,e1,h1,hw1,s1,s2⟩:=qAH h q1 hw
   obtain ⟨S',ρ',ve',g',vs,xs,r1,r2,r3,r4,r5⟩:=qEh rs (acc++[y]) h1 (by
    have hb':=e1.bds hb
    rw [SV.bds_iff] at hb' ⊢
    intro u hu
    rcases List.mem_append.1 hu with hu | hu
    ·exact hb' u hu
    simp only [List.mem_singleton] at hu; subst hu; exact s1) hw1
   refine ⟨S',ρ',ve',g',y.val ve1 lb::vs,xs,r1,by simp only [vL,q2,Option.bind_some,s2,r2,Option.map_some],r3,?_,r5⟩
   rw [yO] at r4
   have:SV.vals ve1 lb acc=SV.vals ve lb acc:=SV.vals_congr e1.ve (fun _ _=>rfl) hb
   rw [this] at r4
   simpa [SV.vals] using r4
  cases hw
theorem qJN {n1:Lim} {S1:St} {ρ1:List D} {ve1:Nat->Value} {lb1:Nat->Nat} {g1:zG} {fr1:Fr} {H1:AH} (h:SR E n1 H0 g0 S1 ρ1 ve1 lb1 g1 fr1 H1) {sz:Nat} {κ:K1} {xs:List SV} (hb:SV.bds S1.n S1.blks.length xs)
  (e1:n0.n=n1.n) (e2:n0.K=n1.K) (e3:n0.F.length<=S1.blks.length/\∀ k a,n0.F[k]? = some a->lb1 k=a) (e4:n0.lfr=n1.lfr/\n0.lps=n1.lps/\n0.las=n1.las/\n0.lbd=n1.lbd)
  (e5:n1.frs=fr::n0.frs) (f1:fr.sz=sz) (f2:fr.rd=n0.rd) (hw:wp E HS Q (qDQ sz κ xs S1) ρ1) :
  ∃ S',S'.n=S1.n/\S'.blks=S1.blks/\SR E n0 H0 g0 S' ρ1 ve1 lb1 g1 fr H1/\wp E HS Q (κ (qDk xs) S') ρ1:=by
 unfold qDQ at hw
 split at hw
 case h_2=>cases hw
 rename_i l r hs
 refine ⟨{ S1 with slots:=qPt l,sz:=sz,sav:=r },rfl,rfl,h.refr (S':={ S1 with slots:=qPt l,sz:=sz,sav:=r }) e1 e2 e3 (.inl e4) rfl rfl f1 f2 ?_ ?_,hw⟩
 ·intro t x hx
  obtain ⟨q1,f,q2,q3⟩:=h.sav 0 l (by rw [hs]; rfl) t x (qEr hx)
  rw [e5] at q2
  simp only [List.getElem?_cons_zero,oI] at q2
  subst q2
  exact ⟨q1,q3⟩
 intro j l' hl t x hx
 obtain ⟨q1,f,q2,q3⟩:=h.sav (j+1) l' (by rw [hs]; simpa using hl) t x hx
 rw [e5] at q2
 exact ⟨q1,f,by simpa using q2,q3⟩
theorem qKn {ve:Nat->Value} {lb:Nat->Nat} (xs:List SV) {vs:List Value} (h:SV.vals ve lb xs=vs):(match some vs with | some [v]=>some v | some vs=>some (Value.tuple ⟨vs⟩) | none=>none)=some ((qDk xs).val ve lb):=by
 subst h
 match xs with
 | []=>rfl
 | [x]=>rfl
 | x::y::r=>rfl
theorem qMO {n m:Nat} (xs:List SV) (h:SV.bds n m xs):(qDk xs).bd n m:=by
 match xs,h with
 | [],h=>exact h
 | [x],h=>exact h.1
 | x::y::r,h=>exact h
theorem qCx {ve:Nat->Value} {lb:Nat->Nat} {n m:Nat} {args:List SV} (hb:SV.bds n m args):∀ t x,(T.ofList .leaf 0 args).get t=some x->x.bd n m/\(T.ofList .leaf 0 (SV.vals ve lb args)).get t=some (x.val ve lb):=by
 intro t x hx
 rw [dC] at hx
 rw [SV.bds_iff] at hb
 refine ⟨hb x (List.mem_of_getElem? hx),?_⟩
 rw [mA,SV.vals_map,List.getElem?_map,hx]
 rfl
end
theorem Fin.mono {E:Env} {c:Code} {K K':g8} {fr:Fr} {H:AH} (h:Fin E c K fr H) (hk:∀ e fr H,K e fr H->K' e fr H):Fin E c K' fr H:=by
 obtain ⟨e,fr1,H1,h1,h2⟩:=h
 exact ⟨e,fr1,H1,h1,hk _ _ _ h2⟩
def qOk (E:Env) (n0:Lim) (H0:AH) (g0:zG) (QQ:Nat->Res1->Prop) (OP:qLk):Prop :=
 ∀ m o S ρ ve lb g fr H κ,SR E n0 H0 g0 S ρ ve lb g fr H->wp E (qB E) (QQ m) (OP o S κ) ρ->sX E (qB E) (QQ m) n0 H0 g0 fr H o κ
theorem qEm {E:Env} {n0:Lim} {H0:AH} {g0:zG} {QQ:Nat->Res1->Prop} {OP:qLk} (hO:qOk E n0 H0 g0 QQ OP) (m:Nat) {all:Array Oper}:∀ (os:List Oper) (i:Nat) {S:St} {ρ:List D} {ve:Nat->Value} {lb:Nat->Nat} {g:zG} {fr:Fr} {H:AH} {κ:St->Tree},SR E n0 H0 g0 S ρ ve lb g fr H->wp E (qB E) (QQ m) (qKi OP all os S κ) ρ ->
  ∃ S' ρ' ve' lb' g' fr' H',SR E n0 H0 g0 S' ρ' ve' lb' g' fr' H'/\wp E (qB E) (QQ m) (κ S') ρ'/\mX E all false os i fr H fr' H'
 | [],i,S,ρ,ve,lb,g,fr,H,κ,h,hw=>⟨S,ρ,ve,lb,g,fr,H,h,hw,.nil⟩
 | o::os,i,S,ρ,ve,lb,g,fr,H,κ,h,hw=>by
  simp only [qKi] at hw
  obtain ⟨S1,h1,hw⟩:=qF0 h hw
  rcases hw with ⟨hg,hw⟩ | ⟨hg,hw⟩
  ·obtain ⟨y,S2,ρ2,ve2,lb2,g2,H2,h2,hb,hw,hx⟩:=hO m _ _ _ _ _ _ _ _ _ h1 hw
   simp only at hw
   split at hw
   ·rename_i S3 hp
    obtain ⟨fr3,hp',h3⟩:=s7 h2 hb hp
    obtain ⟨S',ρ',ve',lb',g',fr',H',r1,r2,r3⟩:=qEm hO m os (i+1) h3 hw
    exact ⟨S',ρ',ve',lb',g',fr',H',r1,r2,.cons hg hx hp' r3⟩
   cases hw
  split at hw
  ·rename_i S3 hp
   obtain ⟨fr3,hp',h3⟩:=s7 h1 (y:=.tup []) trivial hp
   obtain ⟨S',ρ',ve',lb',g',fr',H',r1,r2,r3⟩:=qEm hO m os (i+1) h3 hw
   exact ⟨S',ρ',ve',lb',g',fr',H',r1,r2,.skipped hg hp' r3⟩
  cases hw
def Kt (E:Env) (n0:Lim) (H0:AH) (g0:zG) (QQ:Nat->Res1->Prop) (n:Nat) (κ:KC):g8:=fun e fr H=>∃ m,m<=n/\Kq E n0 H0 g0 (QQ m) κ e fr H
inductive Place (E:Env) (J:Nat->St->Tree) (OP:qLk) (RG:qOs) (at0:Nat) (c0:Code) (κ0:KC):Nat->Code->KC->Prop
 | root:Place E J OP RG at0 c0 κ0 at0 c0 κ0
 | seqL {n:Nat} {a b:Code} {κ:KC} (h:Place E J OP RG at0 c0 κ0 n (.seq a b) κ):Place E J OP RG at0 c0 κ0 n a (qJ4 (fun S=>qCK E J OP RG (n+nl a) b S κ) κ)
 | seqR {n:Nat} {a b:Code} {κ:KC} (h:Place E J OP RG at0 c0 κ0 n (.seq a b) κ):Place E J OP RG at0 c0 κ0 (n+nl a) b κ
 | condL {n:Nat} {c:Operand} {a b:Code} {κ:KC} (h:Place E J OP RG at0 c0 κ0 n (.cond c a b) κ):Place E J OP RG at0 c0 κ0 n a κ
 | condR {n:Nat} {c:Operand} {a b:Code} {κ:KC} (h:Place E J OP RG at0 c0 κ0 n (.cond c a b) κ):Place E J OP RG at0 c0 κ0 (n+nl a) b κ
 | block {n id:Nat} {b:Code} {κ:KC} (h:Place E J OP RG at0 c0 κ0 n (.block id b) κ):Place E J OP RG at0 c0 κ0 n b (bQ id κ)
 | loop {n:Nat} {b:Code} {κ:KC} (h:Place E J OP RG at0 c0 κ0 n (.loop b) κ):Place E J OP RG at0 c0 κ0 (n+1) b (fB J n κ)
 | scope {n:Nat} {b:Code} {κ:KC} (h:Place E J OP RG at0 c0 κ0 n (.scope b) κ):Place E J OP RG at0 c0 κ0 n b κ
section
variable {E:Env} {n0:Lim} {H0:AH} {g0:zG} {QQ:Nat->Res1->Prop} {J:Nat->St->Tree} {OP:qLk} {RG:qOs} {at0:Nat} {c0:Code} {κ0:KC}
theorem Kt.mono {n n':Nat} (hn:n<=n') {κ:KC}:∀ e fr H,Kt E n0 H0 g0 QQ n κ e fr H->Kt E n0 H0 g0 QQ n' κ e fr H:=by
 rintro e fr H ⟨m,hm,h⟩
 exact ⟨m,lT hm hn,h⟩
theorem qDt {P:Nat->St} {RH:Array Tmp->Code->Code->KC->List (Nat × Tree)} {n:Nat} {c:Code} {κ:KC} (hc:Place E J OP RG at0 c0 κ0 n c κ):∀ x∈xI E P J OP RG RH n c κ,x∈xI E P J OP RG RH at0 c0 κ0:=by
 induction hc with
 | root=>exact fun x hx=>hx
 | seqL hc ih=>exact fun x hx=>ih x (by simp only [xI]; exact List.mem_append_left _ hx)
 | seqR hc ih=>exact fun x hx=>ih x (by simp only [xI]; exact List.mem_append_right _ hx)
 | condL hc ih=>exact fun x hx=>ih x (by simp only [xI]; exact List.mem_append_left _ hx)
 | condR hc ih=>exact fun x hx=>ih x (by simp only [xI]; exact List.mem_append_right _ hx)
 | block hc ih=>exact fun x hx=>ih x (by simp only [xI]; exact hx)
 | loop hc ih=>exact fun x hx=>ih x (by simp only [xI]; exact mC _ hx)
 | scope hc ih=>exact fun x hx=>ih x (by simp only [xI]; exact hx)
def qIn (E:Env) (n0:Lim) (H0:AH) (g0:zG) (QQ:Nat->Res1->Prop) (J:Nat->St->Tree) (OP:qLk) (RG:qOs) (at0:Nat) (c0:Code) (κ0:KC) (n:Nat):Prop :=
 ∀ k b κ,Place E J OP RG at0 c0 κ0 k (.loop b) κ->∀ S ρ ve lb g fr H,SR E n0 H0 g0 S ρ ve lb g fr H->wp E (qB E) (QQ n) (J k S) ρ->Fin E (.loop b) (Kt E n0 H0 g0 QQ n κ) fr H
def sW (E:Env) (n0:Lim) (H0:AH) (g0:zG) (QQ:Nat->Res1->Prop) (J:Nat->St->Tree) (OP:qLk) (RG:qOs) (at0:Nat) (c0:Code) (κ0:KC):Prop :=
 ∀ k f ps a b κ,Place E J OP RG at0 c0 κ0 k (.rangeFunc f ps a b) κ->∀ n S ρ ve lb g fr H,SR E n0 H0 g0 S ρ ve lb g fr H->wp E (qB E) (QQ n) (RG f ps a b S κ) ρ->Fin E (.rangeFunc f ps a b) (Kt E n0 H0 g0 QQ n κ) fr H
theorem mO (he:EOk E) (hO:qOk E n0 H0 g0 QQ OP) (hR:sW E n0 H0 g0 QQ J OP RG at0 c0 κ0) {n:Nat} (hj:∀ m,m<=n->qIn E n0 H0 g0 QQ J OP RG at0 c0 κ0 m) :
  ∀ (c:Code) (k:Nat) (κ:KC),Place E J OP RG at0 c0 κ0 k c κ->∀ m,m<=n->∀ S ρ ve lb g fr H,SR E n0 H0 g0 S ρ ve lb g fr H->wp E (qB E) (QQ m) (qCK E J OP RG k c S κ) ρ->Fin E c (Kt E n0 H0 g0 QQ m κ) fr H
 | .seq a b,k,κ,hc,m,hm,S,ρ,ve,lb,g,fr,H,h,hw=>by
  refine qJk ((mO he hO hR hj a k _ hc.seqL m hm S ρ ve lb g fr H h hw).mono ?_)
  rintro e fr1 H1 ⟨m1,hm1,S1,ρ1,ve1,lb1,g1,h1,hw1⟩
  cases e with
  | normal=>exact (mO he hO hR hj b _ κ hc.seqR m1 (lT hm1 hm) S1 ρ1 ve1 lb1 g1 fr1 H1 h1 hw1).mono (Kt.mono hm1)
  | exit id=>exact ⟨m1,hm1,S1,ρ1,ve1,lb1,g1,h1,hw1⟩
  | ret=>exact ⟨m1,hm1,S1,ρ1,ve1,lb1,g1,h1,hw1⟩
 | .cond c a b,k,κ,hc,m,hm,S,ρ,ve,lb,g,fr,H,h,hw=>by
  simp only [qCK] at hw
  have Tt:∀ S',SR E n0 H0 g0 S' ρ ve lb g fr H->ev E fr c=some (.bool true)->wp E (qB E) (QQ m) (qCK E J OP RG k a S' κ) ρ->Fin E (.cond c a b) (Kt E n0 H0 g0 QQ m κ) fr H:=by
   intro S' h' hv hw
   obtain ⟨e,fr1,H1,r1,r2⟩:=mO he hO hR hj a k κ hc.condL m hm S' ρ ve lb g fr H h' hw
   exact ⟨e,fr1,H1,r1.condT he hv,r2⟩
  have Ff:∀ S',SR E n0 H0 g0 S' ρ ve lb g fr H->ev E fr c=some (.bool false)->wp E (qB E) (QQ m) (qCK E J OP RG (k+nl a) b S' κ) ρ->Fin E (.cond c a b) (Kt E n0 H0 g0 QQ m κ) fr H:=by
   intro S' h' hv hw
   obtain ⟨e,fr1,H1,r1,r2⟩:=mO he hO hR hj b (k+nl a) κ hc.condR m hm S' ρ ve lb g fr H h' hw
   exact ⟨e,fr1,H1,r1.condF he hv,r2⟩
  split at hw
  ·rename_i hv; exact Tt S h (zM (E:=E) h hv).2 hw
  ·rename_i hv; exact Ff S h (zM (E:=E) h hv).2 hw
  ·rename_i i hv
   obtain ⟨hp,hw⟩:=jB hw
   obtain ⟨t,hd,hw⟩:=qAN hw
   have hv':=(zM (E:=E) h hv).2
   simp only [SV.val,sS h.toSM hp hd] at hv'
   cases t with
   | true=>exact Tt _ (rZ h hp hd) hv' hw
   | false=>exact Ff _ (rZ h hp hd) hv' hw
  cases hw
 | .block id b,k,κ,hc,m,hm,S,ρ,ve,lb,g,fr,H,h,hw=>by
  refine qDG ((mO he hO hR hj b k _ hc.block m hm S ρ ve lb g fr H h hw).mono ?_)
  rintro e fr1 H1 ⟨m1,hm1,S1,ρ1,ve1,lb1,g1,h1,hw1⟩
  cases e with
  | normal=>exact ⟨m1,hm1,S1,ρ1,ve1,lb1,g1,h1,hw1⟩
  | ret=>exact ⟨m1,hm1,S1,ρ1,ve1,lb1,g1,h1,hw1⟩
  | exit id' =>
   simp only [bQ,zC] at hw1
   simp only [lF]
   split
   ·rename_i e; rw [if_pos e] at hw1
    exact ⟨m1,hm1,S1,ρ1,ve1,lb1,g1,h1,hw1⟩
   rename_i e; rw [if_neg e] at hw1
   exact ⟨m1,hm1,S1,ρ1,ve1,lb1,g1,h1,hw1⟩
 | .loop b,k,κ,hc,m,hm,S,ρ,ve,lb,g,fr,H,h,hw=>hj m hm k b κ hc S ρ ve lb g fr H h hw
 | .scope b,k,κ,hc,m,hm,S,ρ,ve,lb,g,fr,H,h,hw=>qDF (mO he hO hR hj b k κ hc.scope m hm S ρ ve lb g fr H h hw)
 | .region id ops draw,k,κ,hc,m,hm,S,ρ,ve,lb,g,fr,H,h,hw=>by
  cases draw with
  | true =>
   have hw:wp E (qB E) (QQ m) (sx E qTL 1 (.region id ops true) S κ) ρ:=hw
   exact (qTi he h hw).mono fun e fr1 H1 hk=>⟨m,lR _,hk⟩
  | false =>
   have hw:wp E (qB E) (QQ m) (qKi OP ops ops.toList S (κ .normal)) ρ:=hw
   obtain ⟨S',ρ',ve',lb',g',fr',H',r1,r2,r3⟩:=qEm hO m ops.toList 0 h hw
   exact ⟨_,fr',H',.region he r3,m,lR _,S',ρ',ve',lb',g',r1,r2⟩
 | .skip,k,κ,hc,m,hm,S,ρ,ve,lb,g,fr,H,h,hw=>⟨_,fr,H,.skip,m,lR _,S,ρ,ve,lb,g,h,hw⟩
 | .label l,k,κ,hc,m,hm,S,ρ,ve,lb,g,fr,H,h,hw=>⟨_,fr,H,.label,m,lR _,S,ρ,ve,lb,g,h,hw⟩
 | .ret,k,κ,hc,m,hm,S,ρ,ve,lb,g,fr,H,h,hw=>⟨_,fr,H,.ret,m,lR _,S,ρ,ve,lb,g,h,hw⟩
 | .exit id,k,κ,hc,m,hm,S,ρ,ve,lb,g,fr,H,h,hw=>⟨_,fr,H,.exit,m,lR _,S,ρ,ve,lb,g,h,hw⟩
 | .rangeFunc f ps a b,k,κ,hc,m,hm,S,ρ,ve,lb,g,fr,H,h,hw=>hR k f ps a b κ hc m S ρ ve lb g fr H h hw
 | .goto _,k,κ,hc,m,hm,S,ρ,ve,lb,g,fr,H,h,hw=>by cases hw
 | .refuse _,k,κ,hc,m,hm,S,ρ,ve,lb,g,fr,H,h,hw=>by cases hw
end
section
variable {E:Env} {n0:Lim} {H0:AH} {g0:zG} {S:St} {ρ:List D} {ve:Nat->Value} {lb:Nat->Nat} {g:zG} {fr:Fr} {H:AH} {Q:Res1->Prop} {HS:FuncId->List D->D->Prop} {I:qG0}
theorem qMK {o:Oper} {κ:K1} (h:SR E n0 H0 g0 S ρ ve lb g fr H) (hw:wp E (qB E) Q (qU0 E I o S κ) ρ):sX E (qB E) Q n0 H0 g0 fr H o κ:=by
 have plain:wp E (qB E) Q (vZ E o S κ) ρ->sX E (qB E) Q n0 H0 g0 fr H o κ:=fun hw=>(iR h hw).toR
 unfold qU0 at hw
 split at hw
 case h_2=>exact plain hw
 rename_i gf first cap ho
 split at hw
 case h_2=>exact plain hw
 split at hw
 case h_2=>cases hw
 rename_i a b ha hb
 obtain ⟨a1,a2⟩:=mK (E:=E) h ha
 obtain ⟨b1,b2⟩:=mK (E:=E) h hb
 refine ⟨.fn (.func gf) a b,S,ρ,ve,lb,g,H,h,⟨a1,b1⟩,hw,.of_val (lR _) ?_⟩
 unfold jH; rw [ho]
 simp only [a2,b2,one,pA,if_true,Option.map_some,SV.val]
theorem qG9 (he:EOk E) {c:Code} {κ:KC} (h:SR E n0 H0 g0 S ρ ve lb g fr H) (hw:wp E (qB E) Q (qXK E I c S κ) ρ):Fin E c (Kq E n0 H0 g0 Q κ) fr H:=by
 have hj:∀ m,m<=0->qIn E n0 H0 g0 (fun _=>Q) qTL (qU0 E I) qHt 1 c κ m:=fun m _ k b κ hc S ρ ve lb g fr H h hw=>by cases hw
 have hR:sW E n0 H0 g0 (fun _=>Q) qTL (qU0 E I) qHt 1 c κ:=fun _ _ _ _ _ _ _ _ _ _ _ _ _ _ _ _ hw=>by cases hw
 refine (mO (QQ:=fun _=>Q) he (fun m o S ρ ve lb g fr H κ h hw=>qMK h hw) hR hj c 1 κ .root 0 (lR _) S ρ ve lb g fr H h hw).mono ?_
 rintro e fr1 H1 ⟨m,_,hk⟩
 exact hk
theorem qTZ (he:EOk E) (h:SR E n0 H0 g0 S ρ ve lb g fr H) {gf:FuncId} {fn:Func} {c:Code} {args:List SV} {o:Oper} {κ:K1} (hf:E.funcs.get gf=some fn) (hbd:fn.body=some c) (hargs:SV.bds S.n S.blks.length args)
  (ha:jH E fr o H=some (.enter gf (SV.vals ve lb args),H)) (hw:wp E (qB E) Q (qT0 E I fn c args S κ) ρ):sX E (qB E) Q n0 H0 g0 fr H o κ:=by
 unfold qT0 at hw
 have hlen:(SV.vals ve lb args).length=args.length:=by rw [SV.vals_map,List.length_map]
 have h1:SR E { n0 with frs:=fr::n0.frs,rd:=false,F:=(List.range S.blks.length).map lb } H0 g0 { S with slots:=T.ofList .leaf 0 args,sz:=Nat.max fn.ntmps args.length,sav:=mG S.slots S.sz::S.sav } ρ ve lb g ⟨Nat.max fn.ntmps (SV.vals ve lb args).length,false,T.ofList .leaf 0 (SV.vals ve lb args)⟩ H:=by
  refine h.refr (n1:={ n0 with frs:=fr::n0.frs,rd:=false,F:=(List.range S.blks.length).map lb }) (S':={ S with slots:=T.ofList .leaf 0 args,sz:=Nat.max fn.ntmps args.length,sav:=mG S.slots S.sz::S.sav }) rfl rfl ⟨by simp,fun k a hk=>?_⟩ (.inl ⟨rfl,rfl,rfl,rfl⟩) rfl rfl (by simp only [hlen]) rfl (qCx hargs) (cF.push h)
  rw [List.getElem?_map,Option.map_eq_some_iff] at hk
  obtain ⟨q,hq,rfl⟩:=hk
  obtain ⟨q1,q2⟩:=gI hq
  rw [List.getElem_range] at q2
  rw [q2]
 obtain ⟨e,fr1,H1,hx,S1,ρ1,ve1,lb1,g1,h2,hw⟩:=qG9 he h1 hw
 have main:(e=.normal∨e=.ret)->wp E (qB E) Q (qFo E (qDQ S.sz κ) S1 [] fn.results.toList) ρ1->sX E (qB E) Q n0 H0 g0 fr H o κ:=by
  intro hee hw
  obtain ⟨S2,ρ2,ve2,g2,vs,xs,h3,r2,r3,r4,hw⟩:=qEh fn.results.toList [] h2 trivial hw
  simp only [SV.vals,List.nil_append] at r4
  have hfix:=h3.fix
  obtain ⟨S3,s1,s2,h4,hw⟩:=qJN (n0:=n0) (fr:=fr) h3 r3 rfl rfl ⟨(by have:S.blks.length<=S2.blks.length:=(by have:=hfix.1; simpa using this); exact lT h.fix.1 this),fun k a hk=>(by have hlt:k < S.blks.length:=Nat.lt_of_lt_of_le (gI hk).1 h.fix.1; rw [hfix.2 k (lb k) (by rw [List.getElem?_map,List.getElem?_range hlt]; rfl)]; exact h.fix.2 k a hk)⟩ ⟨rfl,rfl,rfl,rfl⟩ rfl h.sz h.rd hw
  ·have hcall:xB E gf (SV.vals ve lb args) H ((qDk xs).val ve2 lb1) H1:=vF.call he hf hbd hx hee (by rw [r2]; exact qKn xs r4)
   have hle:H.next<=H1.next:=hx.1
   exact ⟨qDk xs,S3,ρ2,ve2,lb1,g2,_,h4.raise,by rw [s1,s2]; exact qMO xs r3,hw,.of_call ha hcall.raise (Nat.lt_succ_of_le hle)⟩
 cases e with
 | normal=>exact main (.inl rfl) hw
 | ret=>exact main (.inr rfl) hw
 | exit id=>cases hw
end
end Go.Am
namespace Go.Am
open Go
section
variable {E:Env} {H H1 H2 H3:AH} {fr fr1 fr2:Fr}
open Classical in
theorem wK.of {l:Nat} {args:List Value} {pd0:Option Code} {t0:Fr} {ps0:List Tmp} {a0 b0:Code} {rt0:Nat} {pd t:_} {ps:List Tmp} {a b:Code} {r:Nat} {st3:LoopState} {pd3:Option Code} {t3:Fr} {ps3:List Tmp} {a3 b3:Code} {r3:Nat} {e:AExit}
  (hb:H.blocks.get l=some ⟨.loop .ready pd0 t0 ps0 a0 b0,rt0,true⟩) (hbind:wF t0 ps0 args=some fr)
  (h1:vF E a0 fr H .normal fr1 H1) (hl1:H1.blocks.get l=some ⟨.loop .ready pd t ps a b,r,true⟩)
  (h2:vF E b0 fr1 (H1.write l ⟨.loop .ready pd t ps a b,r,true⟩ (.loop .busy pd t ps a b)) e fr2 H3) (hl3:H3.blocks.get l=some ⟨.loop st3 pd3 t3 ps3 a3 b3,r3,true⟩) :
  wK E l args H (.bool (xT e).isNone) (H3.write l ⟨.loop st3 pd3 t3 ps3 a3 b3,r3,true⟩ (.loop (bif (xT e).isNone then .ready else .done) (xT e) t3 ps3 a3 b3)):=by
 let Hb:=H1.write l ⟨.loop .ready pd t ps a b,r,true⟩ (.loop .busy pd t ps a b)
 have hne:Hb≠H:=by
  intro e
  have:Hb.blocks.get l=some ⟨.loop .busy pd t ps a b,r,true⟩:=by
   show (H1.write _ _ _).blocks.get l=_
   rw [AH.get_write,if_pos rfl]
  rw [e,hb] at this
  cases this
 let ih:Cmd->AH->j8:=fun cmd X=>if cmd=.code a0 fr/\X=H then some (.ex .normal fr1,H1) else if cmd=.code b0 fr1/\X=Hb then some (.ex e fr2,H3) else none
 have inv:∀ {cmd:Cmd} {X:AH} {q:Out × AH},ih cmd X=some q->(cmd=.code a0 fr/\X=H/\q=(.ex .normal fr1,H1))∨(cmd=.code b0 fr1/\X=Hb/\q=(.ex e fr2,H3)):=by
  intro cmd X q hh
  simp only [ih] at hh
  split at hh
  ·rename_i hc; cases hh; exact .inl ⟨hc.1,hc.2,rfl⟩
  split at hh
  ·rename_i hc; cases hh; exact .inr ⟨hc.1,hc.2,rfl⟩
  cases hh
 have io:IhOK E ih:=by
  refine { up:=?_,call:=?_,round:=?_,code:=?_,codev:=?_ }
  ·intro cmd X out Y hh
   rcases inv hh with ⟨_,h2',h3⟩ | ⟨_,h2',h3⟩
   ·cases h3; rw [h2']; exact h1.1
   cases h3; rw [h2']; exact h2.1
  ·intro f args X v Y hh; rcases inv hh with ⟨h,_⟩ | ⟨h,_⟩ <;> cases h
  ·intro f args X v Y hh; rcases inv hh with ⟨h,_⟩ | ⟨h,_⟩ <;> cases h
  ·intro c2 fr2 X e2 fr3 Y hh
   rcases inv hh with ⟨h,rfl,h3⟩ | ⟨h,h',h3⟩
   ·cases h; cases h3; exact h1.2
   cases h; cases h3; rw [h']; exact h2.2
  intro c2 fr2 X v2 Y hh
  rcases inv hh with ⟨_,_,h3⟩ | ⟨_,_,h3⟩ <;> cases h3
 have i1:ih (.code a0 fr) H=some (.ex .normal fr1,H1):=by simp [ih]
 have i2:ih (.code b0 fr1) Hb=some (.ex e fr2,H3):=by
  simp only [ih]
  rw [if_neg (fun h=>hne h.2),if_pos (by simp)]
 have hrun:kT E ih l args H=some (.val (.bool (xT e).isNone),H3.write l ⟨.loop st3 pd3 t3 ps3 a3 b3,r3,true⟩ (.loop (bif (xT e).isNone then .ready else .done) (xT e) t3 ps3 a3 b3)):=by
  have i2':ih (.code b0 fr1) (H1.write l ⟨.loop .ready pd t ps a b,r,true⟩ (.loop .busy pd t ps a b))=some (.ex e fr2,H3):=i2
  simp only [kT,hb,hbind,i1,hl1,i2',hl3]
 obtain ⟨v,hv,hr⟩:=qFk io hrun
 cases hv
 exact hr
open Classical in
theorem vF.range (he:EOk E) {f:Operand} {params:Array Tmp} {assign bd:Code} {g:FuncId} {fn:Func} {first cap:List Value} {v:Value} {st:LoopState} {pend:Option Code} {t:Fr} {ps:List Tmp} {a b:Code} {r:Nat} {e:AExit}
  (hrd:fr.rd=false) (hev:ev E fr f=some (.func (.func g) ⟨first⟩ ⟨cap⟩)) (hfn:E.funcs.get g=some fn)
  (hc:xB E g (first++[.func (.yield H.next) #[] #[]]++cap) (H.new (.loop .ready none ⟨fr.sz,true,fr.t⟩ params.toList assign bd)) v H2) (hn:H.next+1<=H2.next)
  (hl:H2.blocks.get H.next=some ⟨.loop st pend t ps a b,r,true⟩) (hst:st≠.busy) (hp:(pend=none/\e=.normal)∨(pend=some .ret/\e=.ret)∨∃ id,pend=some (.exit id)/\e=.exit id) :
  vF E (.rangeFunc f params assign bd) fr H e fr (H2.write H.next ⟨.loop st pend t ps a b,r,true⟩ (.loop .exhausted pend t ps a b)):=by
 let Hw:=H2.write H.next ⟨.loop st pend t ps a b,r,true⟩ (.loop .exhausted pend t ps a b)
 let Hn:=H.new (.loop .ready none ⟨fr.sz,true,fr.t⟩ params.toList assign bd)
 let ih:Cmd->AH->j8:=fun cmd X=>if cmd=.call g (first++[.func (.yield H.next) #[] #[]]++cap)/\X=Hn then some (.val v,H2) else if (∃ c,pend=some c/\cmd=.code c fr)/\X=Hw then some (.ex e fr,Hw) else none
 have inv:∀ {cmd:Cmd} {X:AH} {q:Out × AH},ih cmd X=some q->(cmd=.call g (first++[.func (.yield H.next) #[] #[]]++cap)/\X=Hn/\q=(.val v,H2))∨(∃ c,pend=some c/\cmd=.code c fr/\X=Hw/\q=(.ex e fr,Hw)):=by
  intro cmd X q hh
  simp only [ih] at hh
  split at hh
  ·rename_i hc; cases hh; exact .inl ⟨hc.1,hc.2,rfl⟩
  split at hh
  ·rename_i hc; cases hh
   obtain ⟨⟨c,h1,h2⟩,h3⟩:=hc
   exact .inr ⟨c,h1,h2,h3,rfl⟩
  cases hh
 have hcode:∀ c,pend=some c->vF E c fr Hw e fr Hw:=by
  intro c hc
  rcases hp with ⟨h1,_⟩ | ⟨h1,h2⟩ | ⟨id,h1,h2⟩
  ·rw [h1] at hc; cases hc
  ·rw [h1] at hc; cases hc; subst h2; exact .ret
  rw [h1] at hc; cases hc; subst h2; exact .exit
 have io:IhOK E ih:=by
  refine { up:=?_,call:=?_,round:=?_,code:=?_,codev:=?_ }
  ·intro cmd X out Y hh
   rcases inv hh with ⟨_,h2',h3⟩ | ⟨c,_,_,h2',h3⟩
   ·cases h3; rw [h2']; exact hn
   cases h3; rw [h2']; exact lR _
  ·intro f args X v Y hh
   rcases inv hh with ⟨h,rfl,h3⟩ | ⟨_,_,h,_⟩
   ·cases h; cases h3; exact hc
   cases h
  ·intro f args X v Y hh; rcases inv hh with ⟨h,_⟩ | ⟨_,_,h,_⟩ <;> cases h
  ·intro c2 fr2 X e2 fr3 Y hh
   rcases inv hh with ⟨h,_⟩ | ⟨c,h1,h,h',h3⟩
   ·cases h
   cases h; cases h3; rw [h']; exact (hcode _ h1).2
  intro c2 fr2 X v2 Y hh
  rcases inv hh with ⟨h,_⟩ | ⟨_,_,_,_,h3⟩
  ·cases h
  cases h3
 have i1:ih (.call g (first++[.func (.yield H.next) #[] #[]]++cap)) Hn=some (.val v,H2):=by simp [ih]
 have hup:H.next<=Hw.next:=by show H.next<=H2.next; omega
 have hrun:cX E ih fr f params.toList assign bd H=some (.ex e fr,Hw):=by
  have i1':ih (.call g ((⟨first⟩:Array Value).toList++[.func (.yield H.next) #[] #[]]++(⟨cap⟩:Array Value).toList)) (H.new (.loop .ready none ⟨fr.sz,true,fr.t⟩ params.toList assign bd))=some (.val v,H2):=i1
  simp only [cX,hrd,hev,hfn,i1',hl,if_neg hst]
  rcases hp with ⟨rfl,rfl⟩ | ⟨rfl,rfl⟩ | ⟨id,rfl,rfl⟩
  ·rfl
  ·simp only [ih]; rw [if_neg (fun h=>by cases h.1),if_pos ⟨⟨_,rfl,rfl⟩,rfl⟩]
  simp only [ih]; rw [if_neg (fun h=>by cases h.1),if_pos ⟨⟨_,rfl,rfl⟩,rfl⟩]
 obtain ⟨e',fr',ho,hr⟩:=qFs he io hrun
 cases ho
 exact ⟨hup,hr⟩
end
theorem qAe {x:Option (Option Blk)} (h:qAO x=true):x=some (some (.loop 0 0)):=by
 unfold qAO at h
 split at h
 ·rfl
 cases h
theorem qHE {x:Option (Option Blk)} (h:qHF x=true):x=some (some (.loop 1 0)):=by
 unfold qHF at h
 split at h
 ·rfl
 cases h
section
variable {E:Env} {n0:Lim} {H0:AH} {g0:zG} {S:St} {ρ:List D} {ve:Nat->Value} {lb:Nat->Nat} {g:zG} {fr:Fr} {H:AH} {Q:Res1->Prop} {HS:FuncId->List D->D->Prop} {I:qG0}
theorem qGM {n m sz:Nat}:∀ {ps:List Tmp} {args:List SV} {sl sl':T SV} {fr:Fr},qCs sz sl ps args=some sl'->SV.bds n m args->fr.sz=sz->(∀ t x,sl.get t=some x->x.bd n m/\fr.t.get t=some (x.val ve lb)) ->
  ∃ fr',wF fr ps (SV.vals ve lb args)=some fr'/\fr'.sz=sz/\fr'.rd=fr.rd/\∀ t x,sl'.get t=some x->x.bd n m/\fr'.t.get t=some (x.val ve lb)
 | [],[],sl,sl',fr,h,_,hs,hr=>by
  simp only [qCs,oI] at h
  subst h
  exact ⟨fr,rfl,hs,rfl,hr⟩
 | [],_::_,_,_,_,h,_,_,_=>by simp [qCs] at h
 | _::_,[],_,_,_,h,_,_,_=>by simp [qCs] at h
 | p::ps,x::xs,sl,sl',fr,h,hb,hs,hr=>by
  simp only [qCs] at h
  cases hc:Nat.ble (p+1) sz with
  | false=>rw [hc] at h; cases h
  | true =>
   rw [hc] at h
   simp only [cond_true] at h
   obtain ⟨fr',q1,q2,q3,q4⟩:=qGM (fr:=⟨fr.sz,fr.rd,fr.t.put p (some (x.val ve lb))⟩) h hb.2 hs (fun t y hy=>by
    rw [T.get_put] at hy ⊢
    split at hy
    ·rename_i e; cases hy; rw [if_pos e]; exact ⟨hb.1,rfl⟩
    rename_i e; rw [if_neg e]; exact hr t y hy)
   refine ⟨fr',?_,q2,q3,q4⟩
   simp only [SV.vals,wF,yJ,hs,hc,cond_true]
   simpa only [hs] using q1
theorem qPP (e:AExit):xT e=qCP (qKh e)/\(xT e).isNone=Nat.beq (qKh e) 0:=by
 cases e with
 | normal=>exact ⟨rfl,rfl⟩
 | ret=>exact ⟨rfl,rfl⟩
 | exit n=>exact ⟨rfl,rfl⟩
theorem qJ8 (he:EOk E) (h:SR E n0 H0 g0 S ρ ve lb g fr H) {Y:Site} {args:List SV} {o:Oper} {κ:K1} (hY:n0.lps=Y.ps/\n0.las=Y.a/\n0.lbd=Y.b/\n0.lfr.sz=Y.sz) (hfr:n0.frs[0]? = some n0.lfr)
  (hargs:SV.bds S.n S.blks.length args) (ha:(∃ pd t a b r,H.blocks.get (lb Y.L)=some ⟨.loop pd none t Y.ps a b,r,true⟩)->jH E fr o H=some (.round (lb Y.L) (SV.vals ve lb args),H))
  (hw:wp E (qB E) Q (qHh E I Y args S κ) ρ):sX E (qB E) Q n0 H0 g0 fr H o κ:=by
 obtain ⟨y1,y2,y3,y4⟩:=hY
 unfold qHh at hw
 obtain ⟨hrdy,hw⟩:=jB hw
 have hb0:=qAe hrdy
 split at hw
 case h_2=>cases hw
 rename_i l r hsav
 split at hw
 case h_2=>cases hw
 rename_i sl hbind
 obtain ⟨_,rt,q2,q3⟩:=h.blks Y.L _ hb0
 rw [y1,y2,y3] at q2
 have hLlt:Y.L < S.blks.length:=(gI hb0).1
 have q2':H.blocks.get (lb Y.L)=some ⟨.loop .ready none ⟨n0.lfr.sz,true,n0.lfr.t⟩ Y.ps Y.a Y.b,rt,true⟩:=q2
 obtain ⟨fr0,b1,b2,b3,b4⟩:=qGM (fr:=⟨n0.lfr.sz,true,n0.lfr.t⟩) (ve:=ve) (lb:=lb) hbind hargs y4 (fun t x hx=>by
  obtain ⟨r1,f,r2,r3⟩:=h.sav 0 l (by rw [hsav]; rfl) t x (qEr hx)
  rw [hfr] at r2
  cases r2
  exact ⟨r1,r3⟩)
 have hpush:=cF.push h
 rw [hsav] at hpush
 let n1:Lim:={ n0 with frs:=fr::n0.frs,rd:=true,F:=(List.range S.blks.length).map lb }
 have hF:∀ k,k < S.blks.length->n1.F[k]? = some (lb k):=fun k hk=>by
  show ((List.range S.blks.length).map lb)[k]? = _
  rw [List.getElem?_map,List.getElem?_range hk]; rfl
 have h1:SR E n1 H0 g0 { S with slots:=sl,sz:=Y.sz,sav:=mG S.slots S.sz::l::r } ρ ve lb g fr0 H:=by
  refine h.refr (n1:=n1) (S':={ S with slots:=sl,sz:=Y.sz,sav:=mG S.slots S.sz::l::r }) rfl rfl ⟨by simp [n1],fun k a hk=>?_⟩ (.inl ⟨rfl,rfl,rfl,rfl⟩) rfl rfl b2 (by rw [b3]) b4 hpush
  have hlt:k < S.blks.length:=by have:=(gI hk).1; simpa [n1] using this
  rw [hF k hlt] at hk; cases hk; rfl
 obtain ⟨e1,fr1,H1,hx1,S1,ρ1,ve1,lb1,g1,h2,hw⟩:=qG9 he h1 hw
 cases e1 with
 | ret=>cases hw
 | exit _=>cases hw
 | normal =>
  simp only [qSI] at hw
  obtain ⟨hr1,hw⟩:=jB hw
  have hb1:=qAe hr1
  obtain ⟨_,rt1,p2,p3⟩:=h2.blks Y.L _ hb1
  have hlb1:lb1 Y.L=lb Y.L:=h2.fix.2 Y.L _ (hF _ hLlt)
  rw [hlb1] at p2
  have p2':H1.blocks.get (lb Y.L)=some ⟨.loop .ready none ⟨n0.lfr.sz,true,n0.lfr.t⟩ Y.ps Y.a Y.b,rt1,true⟩:=by
   have p2:H1.blocks.get (lb Y.L)=some ⟨.loop .ready none ⟨n0.lfr.sz,true,n0.lfr.t⟩ n0.lps n0.las n0.lbd,rt1,true⟩:=p2
   rw [y1,y2,y3] at p2; exact p2
  have h3:SR E n1 H0 g0 (S1.setBlk Y.L (.loop 1 0)) ρ1 ve1 lb1 g1 fr1 (H1.write (lb1 Y.L) ⟨.loop .ready none ⟨n0.lfr.sz,true,n0.lfr.t⟩ Y.ps Y.a Y.b,rt1,true⟩ (.loop .busy none ⟨n0.lfr.sz,true,n0.lfr.t⟩ Y.ps Y.a Y.b)):=by
   refine h2.storeO hb1 (by rw [hlb1]; exact p2') trivial fun bs q1 q2=>⟨rt1,?_,q2⟩
   show bs _=some ⟨.loop .busy none ⟨n0.lfr.sz,true,n0.lfr.t⟩ n0.lps n0.las n0.lbd,rt1,true⟩
   rw [y1,y2,y3]; exact q1
  rw [hlb1] at h3
  obtain ⟨e,fr2,H3,hx2,S2,ρ2,ve2,lb2,g2,h4,hw⟩:=qG9 he h3 hw
  simp only [qSQ] at hw
  obtain ⟨hr2,hw⟩:=jB hw
  have hb2:=qHE hr2
  obtain ⟨_,rt2,u2,u3⟩:=h4.blks Y.L _ hb2
  have hlb2:lb2 Y.L=lb Y.L:=h4.fix.2 Y.L _ (hF _ hLlt)
  have u2':H3.blocks.get (lb2 Y.L)=some ⟨.loop .busy none ⟨n0.lfr.sz,true,n0.lfr.t⟩ Y.ps Y.a Y.b,rt2,true⟩:=by
   have u2:H3.blocks.get (lb2 Y.L)=some ⟨.loop .busy none ⟨n0.lfr.sz,true,n0.lfr.t⟩ n0.lps n0.las n0.lbd,rt2,true⟩:=u2
   rw [y1,y2,y3] at u2; exact u2
  obtain ⟨j1,j2⟩:=qPP e
  have h5:SR E n1 H0 g0 (S2.setBlk Y.L (.loop (bif Nat.beq (qKh e) 0 then 0 else 2) (qKh e))) ρ2 ve2 lb2 g2 fr2
    (H3.write (lb2 Y.L) ⟨.loop .busy none ⟨n0.lfr.sz,true,n0.lfr.t⟩ Y.ps Y.a Y.b,rt2,true⟩ (.loop (bif (xT e).isNone then .ready else .done) (xT e) ⟨n0.lfr.sz,true,n0.lfr.t⟩ Y.ps Y.a Y.b)):=by
   refine h4.storeO hb2 u2' trivial fun bs q1 q2=>⟨rt2,?_,q2⟩
   rw [q1,j2,j1]
   show _=some (ABlk.mk (AObj.loop _ (qCP (qKh e)) ⟨n0.lfr.sz,true,n0.lfr.t⟩ n0.lps n0.las n0.lbd) rt2 true)
   rw [y1,y2,y3]
   cases Nat.beq (qKh e) 0 <;> rfl
  have hbl:(S2.setBlk Y.L (.loop (bif Nat.beq (qKh e) 0 then 0 else 2) (qKh e))).blks.length=S2.blks.length:=by simp [St.setBlk]
  obtain ⟨S3,s1,s2,h6,hw⟩:=qJN (n0:=n0) (fr:=fr) h5 (xs:=[.c (.bool (Nat.beq (qKh e) 0))]) ⟨trivial,trivial⟩ rfl rfl
   ⟨by have h:=h.fix.1; have h':=h5.fix.1; simp only [n1,List.length_map,List.length_range] at h'; omega,fun k a hk=>by
    have hlt:k < S.blks.length:=Nat.lt_of_lt_of_le (gI hk).1 h.fix.1
    rw [h5.fix.2 k (lb k) (hF k hlt)]
    exact h.fix.2 k a hk⟩ ⟨rfl,rfl,rfl,rfl⟩ rfl h.sz h.rd hw
  have hR:=wK.of q2' b1 hx1 p2' hx2 (hlb2 ▸ u2')
  have hle:H.next<=H3.next:=lT hx1.1 hx2.1
  refine ⟨.c (.bool (Nat.beq (qKh e) 0)),S3,ρ2,ve2,lb2,g2,_,h6.raise,trivial,hw,?_⟩
  have hx:=nN.of_round (ha ⟨_,_,_,_,_,q2'⟩) hR.raise (Nat.lt_succ_of_le hle)
  rw [hlb2,SV.val,← j2]
  exact hx
end
end Go.Am
namespace Go.Am
open Go
def qAt (E:Env) (I:qG0):Prop:=∀ g fn c,qAd I g=some (fn,c)->E.funcs.get g=some fn/\fn.body=some c
theorem qAt.nil {E:Env}:qAt E []:=fun _ _ _ h=>by cases h
theorem qAt.cons {E:Env} {f:FuncId} {fn:Func} {c:Code} {I:qG0} (h1:E.funcs.get f=some fn) (h2:fn.body=some c) (h:qAt E I):qAt E ((f,fn,c)::I):=by
 intro g gn d hg
 simp only [qAd,zC] at hg
 split at hg
 ·rename_i e; cases hg; subst e; exact ⟨h1,h2⟩
 exact h g gn d hg
def qIl (n0:Lim) (Y:Option Site):Prop:=∀ y,Y=some y->(n0.lps=y.ps/\n0.las=y.a/\n0.lbd=y.b/\n0.lfr.sz=y.sz)/\n0.frs[0]? = some n0.lfr
section
variable {E:Env} {n0:Lim} {H0:AH} {g0:zG} {S:St} {ρ:List D} {ve:Nat->Value} {lb:Nat->Nat} {g:zG} {fr:Fr} {H:AH} {Q:Res1->Prop} {I:qG0} {Y:Option Site}
theorem qMJ (he:EOk E) (hI:qAt E I) (hY:qIl n0 Y) {o:Oper} {κ:K1} (h:SR E n0 H0 g0 S ρ ve lb g fr H) (hw:wp E (qB E) Q (qIV E I Y o S κ) ρ):sX E (qB E) Q n0 H0 g0 fr H o κ:=by
 have plain:wp E (qB E) Q (vZ E o S κ) ρ->sX E (qB E) Q n0 H0 g0 fr H o κ:=fun hw=>(iR h hw).toR
 unfold qIV at hw
 split at hw
 case h_2=>exact qMK h hw
 rename_i c ho
 split at hw
 case h_2=>exact plain hw
 rename_i f args hf hargs
 obtain ⟨ab,ae⟩:=mK (E:=E) h hargs
 split at hw
 ·rename_i L hfv
  obtain ⟨fb,fe⟩:=zM (E:=E) h hfv
  split at hw
  case h_2=>cases hw
  rename_i y
  obtain ⟨hc,hw2⟩:=jB hw
  clear hw
  simp only [aE] at hc
  have e1:=jF hc.1
  subst e1
  obtain ⟨y1,y2⟩:=hY y rfl
  refine qJ8 he h y1 y2 ab (fun ⟨pd,t,a,b,r,hb⟩=>?_) hw2
  simp only [SV.val] at fe
  have hl:Nat.beq y.ps.length (SV.vals ve lb args).length=true:=by rw [SV.vals_map,List.length_map]; exact hc.2
  unfold jH; rw [ho]
  simp only [gW,ae,hf,fe,hb,hl,cond_true]
 ·rename_i gf first cap hfv
  obtain ⟨fb,fe⟩:=zM (E:=E) h hfv
  split at hw
  case h_2=>exact plain hw
  rename_i fn cd hl
  obtain ⟨hfn,hbd⟩:=hI _ _ _ hl
  refine qTZ he h hfn hbd ?_ ?_ hw
  ·rw [SV.bds_iff] at ab ⊢
   have f1:=SV.bds_iff.1 fb.1
   have f2:=SV.bds_iff.1 fb.2
   intro x hx
   rcases List.mem_append.1 hx with hx | hx
   ·rcases List.mem_append.1 hx with hx | hx
    ·exact f1 x hx
    exact ab x hx
   exact f2 x hx
  simp only [SV.val] at fe
  unfold jH; rw [ho]
  simp only [gW,ae,hf,fe,rE,hfn,yO]
 exact plain hw
end
abbrev Qf (E:Env) (Ts:Nat->Tree) (d:D) (n:Nat):Res1->Prop:=fun r=>match r with
 | .ret d'=>d'=d
 | .jump k' ds=>qT4 E (qB E) Ts n k' ds d
section
variable {E:Env} {n0:Lim} {H0:AH} {g0:zG} {Ts:Nat->Tree} {d:D} {J:Nat->St->Tree} {OP:qLk} {RG:qOs} {at0:Nat} {c0:Code} {κ0:KC}
theorem tL (he:EOk E) (hO:qOk E n0 H0 g0 (Qf E Ts d) OP) (hR:sW E n0 H0 g0 (Qf E Ts d) J OP RG at0 c0 κ0) {pats:Nat->Pat} {szs:Nat->Nat} {RH:Array Tmp->Code->Code->KC->List (Nat × Tree)} (hJ:J=fun k S=>xK (szs k) (pats k) k S)
  (hT:∀ x∈xI E (fun k=>(pats k).st (szs k)) J OP RG RH at0 c0 κ0,Ts x.1=x.2) (hP:∀ k κ b,Place E J OP RG at0 c0 κ0 k (.loop b) κ->n0.F.length<=(pats k).blks.length) :
  ∀ n m,m<=n->qIn E n0 H0 g0 (Qf E Ts d) J OP RG at0 c0 κ0 m
 | 0,m,hm=>by
  intro k b κ hc S ρ ve lb g fr H h hw
  rw [Nat.le_zero.1 hm,hJ] at hw
  obtain ⟨ds,ve',g',_,hq⟩:=qAM h hw (hP k κ b hc)
  cases hq
 | n+1,m,hm=>by
  have ih:=tL he hO hR hJ hT hP n
  rcases Nat.lt_or_ge n m with hlt | hge
  ·have:m=n+1:=by omega
   subst this
   intro k b κ hc S ρ ve lb g fr H h hw
   have hw2:=hw
   rw [hJ] at hw2
   obtain ⟨ds,ve',g',h',hq⟩:=qAM h hw2 (hP k κ b hc)
   have hTk:Ts k=qCK E J OP RG (k+1) b ((pats k).st (szs k)) (fB J k κ):=by
    have:=qDt (P:=fun k=>(pats k).st (szs k)) (RH:=RH) hc (k,qCK E J OP RG (k+1) b ((pats k).st (szs k)) (fB J k κ)) (by simp only [xI]; exact List.mem_cons_self)
    exact hT _ this
   have hq':wp E (qB E) (Qf E Ts d n) (Ts k) ds:=hq
   rw [hTk] at hq'
   refine qGf ((mO he hO hR ih b (k+1) _ hc.loop n (lR _) _ ds ve' lb g' fr H h' hq').mono ?_)
   rintro e fr1 H1 ⟨m1,hm1,S1,ρ1,ve1,lb1,g1,h1,hw1⟩
   cases e with
   | normal=>exact (ih m1 hm1 k b κ hc S1 ρ1 ve1 lb1 g1 fr1 H1 h1 hw1).mono (Kt.mono (by omega))
   | exit id=>exact ⟨m1,by omega,S1,ρ1,ve1,lb1,g1,h1,hw1⟩
   | ret=>exact ⟨m1,by omega,S1,ρ1,ve1,lb1,g1,h1,hw1⟩
  exact ih m hge
end
end Go.Am
namespace Go.Am
open Go
theorem qMp {E:Env} {J:Nat->St->Tree} {OP:qLk} {RG:qOs} {at0:Nat} {c0:Code} {κ0:KC} {n:Nat} {c:Code} {κ:KC} (h:Place E J OP RG at0 c0 κ0 n c κ):at0<=n:=by
 induction h with
 | root=>exact lR _
 | seqL _ ih=>exact ih
 | seqR _ ih=>exact lT ih (Nat.le_add_right _ _)
 | condL _ ih=>exact ih
 | condR _ ih=>exact lT ih (Nat.le_add_right _ _)
 | block _ ih=>exact ih
 | loop _ ih=>exact Nat.le_succ_of_le ih
 | scope _ ih=>exact ih
theorem qBw {l:List (Option Blk)} (h:l.all eC=true) {b:Nat} {x:Blk} (hx:l[b]? = some (some x)):x.isL=false:=by
 rw [List.all_eq_true] at h
 have:=h _ (List.mem_of_getElem? hx)
 cases x with
 | loop _ _=>cases this
 | tcells _ _=>cases this
 | cells _=>rfl
 | whole _ _=>rfl
theorem qMs {x:Option (Option Blk)} {st pd:Nat} (h:qPd x=some (st,pd)):x=some (some (.loop st pd)):=by
 unfold qPd at h
 split at h
 ·cases h; rfl
 cases h
theorem qKS (pd:Nat):(qCP pd=none/\tW pd=.normal)∨(qCP pd=some .ret/\tW pd=.ret)∨∃ id,qCP pd=some (.exit id)/\tW pd=.exit id:=by
 match pd with
 | 0=>exact .inl ⟨rfl,rfl⟩
 | 1=>exact .inr (.inl ⟨rfl,rfl⟩)
 | n+2=>exact .inr (.inr ⟨n,rfl,rfl⟩)
theorem qJ1 {st:Nat} (h:Nat.beq st 1=false):qJ2 st≠.busy:=by
 match st with
 | 0=>simp [qJ2]
 | 1=>cases h
 | n+2=>simp [qJ2]
section
variable {E:Env} {n0:Lim} {H0:AH} {g0:zG} {S:St} {ρ:List D} {ve:Nat->Value} {lb:Nat->Nat} {g:zG} {fr:Fr} {H:AH} {I:qG0}
theorem SR.drop (h : SR E n0 H0 g0 S ρ ve lb g fr H) (b : Nat) : SR E n0 H0 g0 { S with blks := S.blks.set b none } ρ ve lb g fr H := by
  have inv : ∀ c x, (S.blks.set b none)[c]? = some (some x) -> S.blks[c]? = some (some x) /\ c ≠ b := by
    intro c x hc
    rw [List.getElem?_set] at hc
    split at hc
    · split at hc <;> cases hc
    · rename_i hne; exact ⟨hc, fun e => hne e.symm⟩
  have lv : ∀ c, St.live { S with blks := S.blks.set b none } c -> S.live c := fun c ⟨x, hx⟩ => ⟨x, (inv c x hx).1⟩
  have hlen : (S.blks.set b none).length = S.blks.length := by simp
  refine { len := h.len, wf := h.wf, mem := h.mem, base := h.base, fix := ⟨by rw [hlen]; exact h.fix.1, h.fix.2⟩, vars := h.vars, blks := ?_, sepLG := fun c hc => h.sepLG c (lv c hc), sepFG := h.sepFG, sepL := fun c d hc hd => h.sepL c d (lv c hc) (lv d hd), sepF := h.sepF, sepX := fun c i hc => h.sepX c i (lv c hc),
           sz := h.sz, rd := h.rd, slots := ?_, sav := by rw [hlen]; exact h.sav, keep := h.keep, gk := h.gk, low := h.low, tab := h.tab }
  · intro c x hx
    obtain ⟨q1, q2⟩ := h.blks c x (inv c x hx).1
    exact ⟨by rw [hlen]; exact q1, q2⟩
  · intro t x hx
    obtain ⟨q1, q2⟩ := h.slots t x hx
    exact ⟨by rw [hlen]; exact q1, q2⟩
theorem SR.dropIts (h : SR E n0 H0 g0 S ρ ve lb g fr H) : SR E n0 H0 g0 { S with blks := noIts S.blks } ρ ve lb g fr H := by
  have inv : ∀ (c : Nat) (x : Blk), (Go.Am.noIts S.blks)[c]? = some (some x) -> S.blks[c]? = some (some x) := by
    intro c x hc
    unfold Go.Am.noIts at hc
    rw [List.getElem?_map] at hc
    cases hb : S.blks[c]? with
    | none => rw [hb] at hc; cases hc
    | some y =>
      rw [hb] at hc
      simp only [Option.map_some, oI] at hc
      split at hc
      · cases hc
      · rw [hc]
  have lv : ∀ c, St.live { S with blks := Go.Am.noIts S.blks } c -> S.live c := fun c ⟨x, hx⟩ => ⟨x, inv c x hx⟩
  have hlen : (Go.Am.noIts S.blks).length = S.blks.length := by simp [Go.Am.noIts]
  refine { len := h.len, wf := h.wf, mem := h.mem, base := h.base, fix := ⟨by rw [hlen]; exact h.fix.1, h.fix.2⟩, vars := h.vars, blks := ?_, sepLG := fun c hc => h.sepLG c (lv c hc), sepFG := h.sepFG, sepL := fun c d hc hd => h.sepL c d (lv c hc) (lv d hd), sepF := h.sepF, sepX := fun c i hc => h.sepX c i (lv c hc),
           sz := h.sz, rd := h.rd, slots := ?_, sav := by rw [hlen]; exact h.sav, keep := h.keep, gk := h.gk, low := h.low, tab := h.tab }
  · intro c x hx
    obtain ⟨q1, q2⟩ := h.blks c x (inv c x hx)
    exact ⟨by rw [hlen]; exact q1, q2⟩
  · intro t x hx
    obtain ⟨q1, q2⟩ := h.slots t x hx
    exact ⟨by rw [hlen]; exact q1, q2⟩
theorem SR.dropW (h:SR E n0 H0 g0 S ρ ve lb g fr H) {b:Nat} {x:Blk} (hb:S.blks[b]? = some (some x)) {o0 o:AObj} {rt:Nat} (hk:H.blocks.get (lb b)=some ⟨o0,rt,true⟩) (hrt:n0.own (lb b) rt) :
  SR E n0 H0 g0 { S with blks:=S.blks.set b none } ρ ve lb g fr (H.write (lb b) ⟨o0,rt,true⟩ o):=by
 have hlive:S.live b:=⟨x,hb⟩
 refine (h.drop b).heap2 (X:=(· = lb b)) (fun c hc hne=>by rw [AH.get_write,if_neg hne]) (fun c hc=>by subst hc; exact h.sepLG b hlive) (fun c d hc hd e=>?_) (fun c i hc hi=>by subst hc; exact h.sepX b i hlive hi) (fun c hc=>by subst hc; exact (xZ h.toSM hlive).2) (h.wf.write hk _) (lR _) ?_
 ·subst hc
  obtain ⟨y,hy⟩:=hd
  simp only [List.getElem?_set] at hy
  split at hy
  ·split at hy <;> cases hy
  rename_i hne; exact hne (h.sepL d b ⟨y,hy⟩ hlive e).symm
 show _<=Nat.min H.low rt
 exact Nat.le_min.2 ⟨h.low,lT (Nat.min_le_right _ _) hrt.1⟩
theorem qKb (he:EOk E) (hI:qAt E I) {Ts:Nat->Tree} {d:D} {J:Nat->St->Tree} {c0:Code} {κ0:KC} {G:FuncId} {fnG:Func} {cdG:Code} {sz L atg at0:Nat} {pats:Nat->Pat} {szs:Nat->Nat} (hG:qAd I G=some (fnG,cdG))
  (hrd0:n0.rd=false) (hJ:J=fun k S=>xK (szs k) (pats k) k S)
  (hT:∀ x∈xI E (fun k=>(pats k).st (szs k)) J (qIV E I none) (fT E J I G sz L atg) (qHj E (fun k=>(pats k).st (szs k)) J I cdG sz L atg) at0 c0 κ0,Ts x.1=x.2) (hP:∀ k,atg<=k->L+1<=(pats k).blks.length) :
  sW E n0 H0 g0 (Qf E Ts d) J (qIV E I none) (fT E J I G sz L atg) at0 c0 κ0:=by
 intro k f ps a b κ hc n S ρ ve lb g fr H h hw
 unfold fT at hw
 split at hw
 case h_2=>cases hw
 rename_i gf first cap fn cd hfv hlk
 rw [hG] at hlk
 cases hlk
 obtain ⟨hcond,hw2⟩:=jB hw
 clear hw
 simp only [aE] at hcond
 obtain ⟨⟨⟨⟨hgG,hlen⟩,hsz⟩,hnl⟩,hres⟩:=hcond
 have hgG:=jF hgG
 have hlen:=jF hlen
 have hsz:=jF hsz
 subst hgG
 obtain ⟨hfn,hbd⟩:=hI _ _ _ hG
 obtain ⟨fb,fe⟩:=zM (E:=E) h hfv
 simp only [SV.val] at fe
 have hfrd:fr.rd=false:=by rw [h.rd]; exact hrd0
 have hA:SR E { n0 with lfr:=fr,lps:=ps.toList,las:=a,lbd:=b } H0 g0 S ρ ve lb g fr H :=
  h.refr (n1:={ n0 with lfr:=fr,lps:=ps.toList,las:=a,lbd:=b }) (S':=S) rfl rfl h.fix (.inr fun b x hx=>qBw hnl hx) rfl rfl h.sz h.rd h.slots h.sav
 have hB:=hA.allocO (o:=.loop .ready none ⟨fr.sz,true,fr.t⟩ ps.toList a b) (x:=.loop 0 0) trivial (fun bs h1 h2=>⟨_,h1,h2⟩)
 have hlbL:qCH lb S.blks.length H.next L=H.next:=by rw [← hlen]; exact if_pos rfl
 have hlbk:∀ k,k < L->qCH lb S.blks.length H.next k=lb k:=fun k hk=>if_neg (by omega)
 generalize hlb':qCH lb S.blks.length H.next=lb' at hB hlbL hlbk
 have hbl:(S.blks++[some (Blk.loop 0 0)]).length=L+1:=by simp [hlen]
 have hbF:SV.bds S.n (L+1) first:=SV.bds_mono (lR _) (by omega) fb.1
 have hbC:SV.bds S.n (L+1) cap:=SV.bds_mono (lR _) (by omega) fb.2
 have hargs:SV.bds S.n (S.blks++[some (Blk.loop 0 0)]).length (first++[SV.yld L]++cap):=by
  rw [hbl]
  rw [SV.bds_iff] at hbF hbC ⊢
  intro x hx
  rcases List.mem_append.1 hx with hx | hx
  ·rcases List.mem_append.1 hx with hx | hx
   ·exact hbF x hx
   simp only [List.mem_singleton] at hx; subst hx; exact Nat.lt_succ_self L
  exact hbC x hx
 have hvF:SV.vals ve lb' first=SV.vals ve lb first:=SV.vals_congr (m:=L) (fun _ _=>rfl) hlbk (by rw [← hlen]; exact fb.1)
 have hvC:SV.vals ve lb' cap=SV.vals ve lb cap:=SV.vals_congr (m:=L) (fun _ _=>rfl) hlbk (by rw [← hlen]; exact fb.2)
 have hvals:SV.vals ve lb' (first++[SV.yld L]++cap)=SV.vals ve lb first++[.func (.yield H.next) #[] #[]]++SV.vals ve lb cap:=by
  rw [yO,yO,hvF,hvC]
  simp only [SV.vals,SV.val,hlbL]
 have hvl:(SV.vals ve lb' (first++[SV.yld L]++cap)).length=(first++[SV.yld L]++cap).length:=by rw [SV.vals_map,List.length_map]
 let n1:Lim:={ n0 with frs:=fr::n0.frs,rd:=false,lfr:=fr,lps:=ps.toList,las:=a,lbd:=b,F:=(List.range (L+1)).map lb' }
 have hFk:∀ k,k < L+1->n1.F[k]? = some (lb' k):=fun k hk=>by
  show ((List.range (L+1)).map lb')[k]? = _
  rw [List.getElem?_map,List.getElem?_range hk]; rfl
 have hC:SR E n1 H0 g0 { S with slots:=T.ofList .leaf 0 (first++[SV.yld L]++cap),sz:=Nat.max fnG.ntmps (first++[SV.yld L]++cap).length,sav:=mG S.slots S.sz::S.sav,blks:=S.blks++[some (.loop 0 0)] } ρ ve lb' g
   ⟨Nat.max fnG.ntmps (SV.vals ve lb' (first++[SV.yld L]++cap)).length,false,T.ofList .leaf 0 (SV.vals ve lb' (first++[SV.yld L]++cap))⟩ (H.new (.loop .ready none ⟨fr.sz,true,fr.t⟩ ps.toList a b)):=by
  refine hB.refr (n1:=n1) (S':={ S with slots:=T.ofList .leaf 0 (first++[SV.yld L]++cap),sz:=Nat.max fnG.ntmps (first++[SV.yld L]++cap).length,sav:=mG S.slots S.sz::S.sav,blks:=S.blks++[some (.loop 0 0)] })
   rfl rfl ⟨by simp only [n1,List.length_map,List.length_range]; exact Nat.le_of_eq hbl.symm,fun k a hk=>?_⟩ (.inl ⟨rfl,rfl,rfl,rfl⟩) rfl rfl (by simp only [hvl]) rfl (qCx hargs) (cF.push hB)
  have hlt:k < L+1:=by have:=(gI hk).1; simpa [n1] using this
  rw [hFk k hlt] at hk; cases hk; rfl
 have hYok:qIl n1 (some ⟨ps.toList,a,b,sz,L⟩):=by
  intro y hy
  cases hy
  exact ⟨⟨rfl,rfl,rfl,by show fr.sz=sz; rw [h.sz]; exact hsz⟩,rfl⟩
 have hOg:qOk E n1 H0 g0 (Qf E Ts d) (qIV E I (some ⟨ps.toList,a,b,sz,L⟩)):=fun m o S ρ ve lb g fr H κ h hw=>qMJ he hI hYok h hw
 have hRg:sW E n1 H0 g0 (Qf E Ts d) J (qIV E I (some ⟨ps.toList,a,b,sz,L⟩)) qHt atg cdG (qJt ⟨ps.toList,a,b,sz,L⟩ κ):=fun _ _ _ _ _ _ _ _ _ _ _ _ _ _ _ _ hw=>by cases hw
 have hTg:∀ x∈xI E (fun k=>(pats k).st (szs k)) J (qIV E I (some ⟨ps.toList,a,b,sz,L⟩)) qHt (fun _ _ _ _=>[]) atg cdG (qJt ⟨ps.toList,a,b,sz,L⟩ κ),Ts x.1=x.2:=by
  intro x hx
  exact hT x (qDt hc x (by simp only [xI]; exact hx))
 have hjg:=tL (n0:=n1) (H0:=H0) (g0:=g0) (d:=d) he hOg hRg hJ hTg (fun k κ b hp=>by
  have:=hP k (qMp hp)
  simp only [n1,List.length_map,List.length_range]; exact this)
 obtain ⟨e,frg,H2,hx,m,hm,S2,ρ2,ve2,lb2,g2,h2,hw⟩:=mO (n0:=n1) he hOg hRg (hjg n) cdG atg _ .root n (lR _) _ _ _ _ _ _ _ hC hw2
 have main:(e=.normal∨e=.ret)->wp E (qB E) (Qf E Ts d m) (match S2.sav,qPd S2.blks[L]? with
   | l::r,some (st,pd)=>bif Nat.beq st 1 then .fail else
    bif (noIts (S2.blks.set L none)).all eC then κ (tW pd) { S2 with slots:=qPt l,sz:=sz,sav:=r,blks:=noIts (S2.blks.set L none) } else .fail
   | _,_=>.fail) ρ2->Fin E (.rangeFunc f ps a b) (Kt E n0 H0 g0 (Qf E Ts d) n κ) fr H:=by
  intro hee hw
  split at hw
  case h_2=>cases hw
  rename_i l r st pd hsav hpd
  have hbk:=qMs hpd
  rw [cond_eq_ite] at hw
  split at hw
  ·cases hw
  rename_i hst
  have hst:Nat.beq st 1=false:=by cases hb:Nat.beq st 1 with
   | false=>rfl
   | true=>exact absurd hb hst
  obtain ⟨hnl2,hw⟩:=jB hw
  obtain ⟨_,rt,u2,u3⟩:=h2.blks L _ hbk
  have hlb2:∀ k,k < L+1->lb2 k=lb' k:=fun k hk=>h2.fix.2 k _ (hFk k hk)
  have hlbL2:lb2 L=H.next:=by rw [hlb2 L (Nat.lt_succ_self _)]; exact hlbL
  have u2':H2.blocks.get (lb2 L)=some ⟨.loop (qJ2 st) (qCP pd) ⟨fr.sz,true,fr.t⟩ ps.toList a b,rt,true⟩:=u2
  have hcall:xB E gf (SV.vals ve lb' (first++[SV.yld L]++cap)) (H.new (.loop .ready none ⟨fr.sz,true,fr.t⟩ ps.toList a b)) (.tuple ⟨[]⟩) H2:=by
   refine vF.call he hfn hbd hx hee ?_
   have:fnG.results.toList=[]:=by simpa using hres
   rw [this]; rfl
  have hdw:=(h2.dropW hbk u2' u3 (o:=.loop .exhausted (qCP pd) ⟨fr.sz,true,fr.t⟩ ps.toList a b)).dropIts
  have hfin:SR E n0 H0 g0 { S2 with slots:=qPt l,sz:=sz,sav:=r,blks:=noIts (S2.blks.set L none) } ρ2 ve2 lb2 g2 fr (H2.write (lb2 L) ⟨.loop (qJ2 st) (qCP pd) ⟨fr.sz,true,fr.t⟩ ps.toList a b,rt,true⟩ (.loop .exhausted (qCP pd) ⟨fr.sz,true,fr.t⟩ ps.toList a b)):=by
   refine hdw.refr (n1:=n0) (S':={ S2 with slots:=qPt l,sz:=sz,sav:=r,blks:=noIts (S2.blks.set L none) }) rfl rfl ⟨?_,fun k a hk=>?_⟩ (.inr fun b x hx=>qBw hnl2 hx) rfl rfl (by rw [h.sz]; exact hsz) h.rd ?_ ?_
   ·have q1:=h.fix.1
    have q2:=h2.fix.1
    simp only [n1,List.length_map,List.length_range] at q2
    simp only [noIts,List.length_map,List.length_set]; omega
   ·have hlt:k < S.blks.length:=Nat.lt_of_lt_of_le (gI hk).1 h.fix.1
    rw [hlb2 k (by omega),hlbk k (by omega)]
    exact h.fix.2 k a hk
   ·intro t x hx
    obtain ⟨q1,f,q2,q3⟩:=hdw.sav 0 l (by show S2.sav[0]? = _; rw [hsav]; rfl) t x (qEr hx)
    cases q2
    exact ⟨q1,q3⟩
   intro j l' hl t x hx
   obtain ⟨q1,f,q2,q3⟩:=hdw.sav (j+1) l' (by show S2.sav[j+1]? = _; rw [hsav]; simpa using hl) t x hx
   exact ⟨q1,f,by simpa [n1] using q2,q3⟩
  rw [hlbL2] at u2' hfin
  rw [hvals] at hcall
  have hR:=vF.range (e:=tW pd) he hfrd fe hfn hcall (by have:=hx.1; exact this) u2' (qJ1 hst) (qKS pd)
  exact ⟨_,fr,_,hR,m,hm,_,ρ2,ve2,lb2,g2,hfin,hw⟩
 cases e with
 | normal=>exact main (.inl rfl) hw
 | ret=>exact main (.inr rfl) hw
 | exit id=>cases hw
theorem qKG (he:EOk E) (hI:qAt E I) {f:FuncId} {fn:Func} {c:Code} (hf:E.funcs.get f=some fn) (hb:fn.body=some c) {pats:Nat->Pat} {szs:Nat->Nat} {Ts:Nat->Tree} {ds:List D} {d:D} {n L:Nat} (hn:ds.length=n) {G:FuncId} {fnG:Func} {cdG:Code} (hG:qAd I G=some (fnG,cdG))
  (h0:qCK E (fun k S=>xK (szs k) (pats k) k S) (qIV E I none) (fT E (fun k S=>xK (szs k) (pats k) k S) I G (Nat.max fn.ntmps n) L 1000) 1 c (gK n (Nat.max fn.ntmps n)) (uB E fn.results.toList)=Ts 0)
  (hT:∀ x∈xI E (fun k=>(pats k).st (szs k)) (fun k S=>xK (szs k) (pats k) k S) (qIV E I none) (fT E (fun k S=>xK (szs k) (pats k) k S) I G (Nat.max fn.ntmps n) L 1000) (qHj E (fun k=>(pats k).st (szs k)) (fun k S=>xK (szs k) (pats k) k S) I cdG (Nat.max fn.ntmps n) L 1000) 1 c (uB E fn.results.toList),Ts x.1=x.2)
  (hP:∀ k,1000<=k->L+1<=(pats k).blks.length)
  (hgo:qK E (qB E) Ts 0 ds d) (hlt:f < nK:=by decide):qB E f ds d:=by
 refine .inl ⟨hlt,⟨fn,hf⟩,fun H g args hwf hm htab hd=>?_⟩
 have hlen:args.length=n:=by rw [hd.length,hn]
 have hs:=qFd (sz:=Nat.max fn.ntmps n) hwf hm htab hd hlen
 obtain ⟨m,hgo⟩:=hgo
 cases m with
 | zero=>cases hgo
 | succ m =>
  have hgo':wp E (qB E) (Qf E Ts d m) (Ts 0) ds:=hgo
  rw [← h0] at hgo'
  have hY:qIl (Lim.of H.next) none:=fun y hy=>by cases hy
  have hO:qOk E (Lim.of H.next) H g (Qf E Ts d) (qIV E I none):=fun m o S ρ ve lb g fr H κ h hw=>qMJ he hI hY h hw
  have hR:=qKb (n0:=Lim.of H.next) (H0:=H) (g0:=g) (d:=d) he hI hG rfl rfl hT hP
  have hj:=tL (n0:=Lim.of H.next) (H0:=H) (g0:=g) (d:=d) he hO hR rfl hT (fun k κ b hp=>Nat.zero_le _) m
  obtain ⟨e,fr1,H1,hx,m1,_,S1,ρ1,ve1,lb1,g1,h1,hw⟩:=mO he hO hR hj c 1 _ .root m (lR _) _ _ _ _ _ _ _ hs hgo'
  obtain ⟨he',v,g',hv,hdr,hm',hwf',hnx,hk,hlow,hgk⟩:=qJs (d:=d) (fun d' hd'=>hd') e S1 ρ1 ve1 lb1 g1 fr1 H1 h1 hw
  rw [← hlen] at hx
  have hcall:=vF.call he hf hb hx he' hv
  let g2:zG:=fun b=>if b < H.next then g b else g' b
  have hg2:zG.le g' g2:=by
   intro b k hb
   simp only [g2]
   split
   ·rename_i hlt; rw [← hgk b hlt]; exact hb
   exact hb
  refine ⟨v,{ H1 with next:=H1.next+1 },g2,hcall.raise,Nat.lt_succ_of_le hnx,fun b k hb=>⟨(hwf' b k hb).1,Nat.lt_succ_of_lt (hwf' b k hb).2⟩,hk,hlow,?_,?_,?_,hdr.mono hg2⟩
  ·intro b k hb
   simp only [g2]
   rw [if_pos (hwf b k (hm b k hb)).2]
   exact hb
  ·intro b k hb
   simp only [g2] at hb
   split at hb
   ·rename_i hlt
    rw [← hgk b hlt] at hb
    exact hm' b k hb
   exact hm' b k hb
  intro b hb
  simp only [g2]
  rw [if_pos hb]
end
end Go.Am
