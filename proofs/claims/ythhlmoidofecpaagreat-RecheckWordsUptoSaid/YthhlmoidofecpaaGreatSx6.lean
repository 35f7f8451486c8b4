/- Loops over functions in symbolic runs: the iterator's code runs in place, and so do the rounds and small callees. Conditions: none. -/
import Derived.Test.YthhlmoidofecpaaGreatSx4
set_option linter.unusedVariables false
set_option linter.unusedSimpArgs false
namespace Go.Am
open Go
def qDz (t:T SV):Nat->List (Nat × SV)
 | 0=>[]
 | n+1=>match t.get n with
  | some x=>(n,x)::qDz t n
  | none=>qDz t n
def qSI:Nat->St->Tree:=fun _ _=>.fail
abbrev qK0:=Oper->St->K1->Tree
def qHr (OP:qK0) (all:Array Oper):List Oper->St->(St->Tree)->Tree
 | [],S,κ=>κ S
 | o::os,S,κ =>
  uO all o S
   (fun S=>OP o S fun y S=>match S.put o.dst y with
    | some S=>qHr OP all os S κ
    | none=>.fail)
   (fun S=>match S.put o.dst (.tup []) with
    | some S=>qHr OP all os S κ
    | none=>.fail)
abbrev qOH:=Operand->Array Tmp->Code->Code->St->KC->Tree
def qJE:qOH:=fun _ _ _ _ _ _=>.fail
def qBW (E:Env) (J:Nat->St->Tree) (OP:qK0) (RG:qOH):Nat->Code->St->KC->Tree
 | at_,.seq a b,S,κ=>qBW E J OP RG at_ a S (qHi (fun S=>qBW E J OP RG (at_+nl a) b S κ) κ)
 | at_,.cond c a b,S,κ=>match nW S c with
  | some (.c (.bool true))=>qBW E J OP RG at_ a S κ
  | some (.c (.bool false))=>qBW E J OP RG (at_+nl a) b S κ
  | some (.v i)=>bif S.pureV i then .ite (.v i) (qBW E J OP RG at_ a (S.known i true) κ) (qBW E J OP RG (at_+nl a) b (S.known i false) κ) else .fail
  | _=>.fail
 | at_,.block id b,S,κ=>qBW E J OP RG at_ b S (nY id κ)
 | at_,.loop _,S,_=>J at_ S
 | at_,.scope b,S,κ=>qBW E J OP RG at_ b S κ
 | _,.region id ops draw,S,κ=>bif draw then sx E qSI 1 (.region id ops draw) S κ else qHr OP ops ops.toList S (κ .normal)
 | _,.rangeFunc f ps a b,S,κ=>RG f ps a b S κ
 | _,.skip,S,κ=>κ .normal S
 | _,.label _,S,κ=>κ .normal S
 | _,.ret,S,κ=>κ .ret S
 | _,.exit id,S,κ=>κ (.exit id) S
 | _,_,_,_=>.fail
abbrev qQv:=List (FuncId × Func × Code)
def qJQ:qQv->FuncId->Option (Func × Code)
 | [],_=>none
 | (f,fn,c)::r,g=>bif Nat.beq f g then some (fn,c) else qJQ r g
structure Site where
 ps:List Tmp
 a:Code
 b:Code
 sz:Nat
 L:Nat
def xJ (E:Env) (P:Nat->St) (J:Nat->St->Tree) (OP:qK0) (RG:qOH) (RH:Array Tmp->Code->Code->KC->List (Nat × Tree)):Nat->Code->KC->List (Nat × Tree)
 | at_,.seq a b,κ=>xJ E P J OP RG RH at_ a (qHi (fun S=>qBW E J OP RG (at_+nl a) b S κ) κ)++xJ E P J OP RG RH (at_+nl a) b κ
 | at_,.cond _ a b,κ=>xJ E P J OP RG RH at_ a κ++xJ E P J OP RG RH (at_+nl a) b κ
 | at_,.block id b,κ=>xJ E P J OP RG RH at_ b (nY id κ)
 | at_,.loop b,κ=>(at_,qBW E J OP RG (at_+1) b (P at_) (bG J at_ κ))::xJ E P J OP RG RH (at_+1) b (bG J at_ κ)
 | at_,.scope b,κ=>xJ E P J OP RG RH at_ b κ
 | _,.rangeFunc _ ps a b,κ=>RH ps a b κ
 | _,_,_=>[]
end Go.Am
namespace Go.Am
open Go
theorem fK {t:T SV}:∀ {n u:Nat} {x:SV},(u,x)∈qDz t n->t.get u=some x
 | 0,_,_,h=>by cases h
 | n+1,u,x,h=>by
  simp only [qDz] at h
  split at h
  ·rename_i y hy
   rcases List.mem_cons.1 h with e | h
   ·cases e; exact hy
   exact fK h
  exact fK h
theorem wC.raise {E:Env} {l:Nat} {args:List Value} {H H':AH} {v:Value} (h:wC E l args H v H'):wC E l args H v { H' with next:=H'.next+1 }:=by
 intro σ w args' L lo hr hv hf hs hw hl c cs
 obtain ⟨σ',w',v',g1,s,g3⟩:=h σ w args' L lo hr hv (fun b h1 h2=>hf b h1 (Nat.lt_succ_of_lt h2)) hs hw hl c cs
 have st:Step E σ H w σ' { H' with next:=H'.next+1 } w':=by
  refine ⟨⟨s.hr.objs,s.hr.sep,s.hr.glob,fun b k hb=>?_⟩,Nat.le_succ_of_le s.next,fun b hb=>?_,s.size,s.low,s.tape,s.os,s.output,s.frame,s.origin,s.old,s.keep,s.born⟩
  ·exact ⟨(s.hr.wf b k hb).1,Nat.lt_succ_of_lt (s.hr.wf b k hb).2⟩
  refine s.ext b ?_
  rcases hb with hb | hb
  ·exact .inl hb
  exact .inr (Nat.le_of_succ_le hb)
 exact ⟨σ',w',v',g1,st,g3⟩
section
variable {E:Env} {n0:Lim} {H0:AH} {g0:zF} {S:St} {ρ:List D} {ve:Nat->Value} {lb:Nat->Nat} {g:zF} {fr:Fr} {H:AH} {Q:Res1->Prop} {HS:FuncId->List D->D->Prop}
theorem SR.raise (h:SR n0 H0 g0 S ρ ve lb g fr H):SR n0 H0 g0 S ρ ve lb g fr { H with next:=H.next+1 } :=
 h.heap (H':={ H with next:=H.next+1 }) (fun _ _=>rfl) (fun b k hb=>⟨(h.wf b k hb).1,Nat.lt_succ_of_lt (h.wf b k hb).2⟩) (Nat.le_succ _) h.low
theorem aH.push (h:SR n0 H0 g0 S ρ ve lb g fr H):aH (fr::n0.frs) (qDz S.slots S.sz::S.sav) S.n S.blks.length ve lb:=by
 intro j l hl t x hx
 cases j with
 | zero =>
  simp only [List.getElem?_cons_zero,oI] at hl
  subst hl
  obtain ⟨q1,q2⟩:=h.slots t x (fK hx)
  exact ⟨q1,fr,rfl,q2⟩
 | succ j =>
  obtain ⟨q1,f,q2,q3⟩:=h.sav j l (by simpa using hl) t x hx
  exact ⟨q1,f,by simpa using q2,q3⟩
def Kq (E:Env) (n0:Lim) (H0:AH) (g0:zF) (Q:Res1->Prop) (κ:KC):kW:=fun e fr H=>∃ S ρ ve lb g,SR n0 H0 g0 S ρ ve lb g fr H/\wp E (Holds E) Q (κ e S) ρ
theorem qO1 (he:EOk E) {c:Code} {κ:KC} (h:SR n0 H0 g0 S ρ ve lb g fr H) (hw:wp E (Holds E) Q (sx E qSI 1 c S κ) ρ):Fin E c (Kq E n0 H0 g0 Q κ) fr H:=by
 refine bD (c0:=c) (κ0:=κ) (K0:=Kq E n0 H0 g0 Q κ) (J:=qSI) he (fun k b κ K hc S ρ ve lb g fr H h hw=>by cases hw) c 1 κ (Kq E n0 H0 g0 Q κ) .root ?_ S ρ ve lb g fr H h hw
 intro e S ρ ve lb g fr H h hw
 exact ⟨S,ρ,ve,lb,g,h,hw⟩
def aJ (E:Env) (HS:FuncId->List D->D->Prop) (Q:Res1->Prop) (n0:Lim) (H0:AH) (g0:zF) (fr:Fr) (H:AH) (o:Oper) (κ:K1):Prop :=
 ∃ y S' ρ' ve' lb' g' H',SR n0 H0 g0 S' ρ' ve' lb' g' fr H'/\y.bd S'.n S'.blks.length/\wp E HS Q (κ y S') ρ'/\mI E fr o H (y.val ve' lb') H'
theorem jU.toR {wm:Bool} {o:Oper} {κ:K1} (h:jU wm E HS Q n0 H0 g0 fr H o κ):aJ E HS Q n0 H0 g0 fr H o κ:=by
 obtain ⟨y,S',ρ',ve',lb',g',H',h1,h2,h3,h4,_⟩:=h
 exact ⟨y,S',ρ',ve',lb',g',H',h1,h2,h3,h4⟩
end
theorem Fin.mono {E:Env} {c:Code} {K K':kW} {fr:Fr} {H:AH} (h:Fin E c K fr H) (hk:∀ e fr H,K e fr H->K' e fr H):Fin E c K' fr H:=by
 obtain ⟨e,fr1,H1,h1,h2⟩:=h
 exact ⟨e,fr1,H1,h1,hk _ _ _ h2⟩
def qM5 (E:Env) (n0:Lim) (H0:AH) (g0:zF) (QQ:Nat->Res1->Prop) (OP:qK0):Prop :=
 ∀ m o S ρ ve lb g fr H κ,SR n0 H0 g0 S ρ ve lb g fr H->wp E (Holds E) (QQ m) (OP o S κ) ρ->aJ E (Holds E) (QQ m) n0 H0 g0 fr H o κ
theorem qCd {E:Env} {n0:Lim} {H0:AH} {g0:zF} {QQ:Nat->Res1->Prop} {OP:qK0} (hO:qM5 E n0 H0 g0 QQ OP) (m:Nat) {all:Array Oper}:∀ (os:List Oper) (i:Nat) {S:St} {ρ:List D} {ve:Nat->Value} {lb:Nat->Nat} {g:zF} {fr:Fr} {H:AH} {κ:St->Tree},SR n0 H0 g0 S ρ ve lb g fr H->wp E (Holds E) (QQ m) (qHr OP all os S κ) ρ ->
  ∃ S' ρ' ve' lb' g' fr' H',SR n0 H0 g0 S' ρ' ve' lb' g' fr' H'/\wp E (Holds E) (QQ m) (κ S') ρ'/\rC E all false os i fr H fr' H'
 | [],i,S,ρ,ve,lb,g,fr,H,κ,h,hw=>⟨S,ρ,ve,lb,g,fr,H,h,hw,.nil⟩
 | o::os,i,S,ρ,ve,lb,g,fr,H,κ,h,hw=>by
  simp only [qHr] at hw
  obtain ⟨S1,h1,hw⟩:=qDN h hw
  rcases hw with ⟨hg,hw⟩ | ⟨hg,hw⟩
  ·obtain ⟨y,S2,ρ2,ve2,lb2,g2,H2,h2,hb,hw,hx⟩:=hO m _ _ _ _ _ _ _ _ _ h1 hw
   simp only at hw
   split at hw
   ·rename_i S3 hp
    obtain ⟨fr3,hp',h3⟩:=fC h2 hb hp
    obtain ⟨S',ρ',ve',lb',g',fr',H',r1,r2,r3⟩:=qCd hO m os (i+1) h3 hw
    exact ⟨S',ρ',ve',lb',g',fr',H',r1,r2,.cons hg hx hp' r3⟩
   cases hw
  split at hw
  ·rename_i S3 hp
   obtain ⟨fr3,hp',h3⟩:=fC h1 (y:=.tup []) trivial hp
   obtain ⟨S',ρ',ve',lb',g',fr',H',r1,r2,r3⟩:=qCd hO m os (i+1) h3 hw
   exact ⟨S',ρ',ve',lb',g',fr',H',r1,r2,.skipped hg hp' r3⟩
  cases hw
def Kt (E:Env) (n0:Lim) (H0:AH) (g0:zF) (QQ:Nat->Res1->Prop) (n:Nat) (κ:KC):kW:=fun e fr H=>∃ m,m<=n/\Kq E n0 H0 g0 (QQ m) κ e fr H
inductive Place (E:Env) (J:Nat->St->Tree) (OP:qK0) (RG:qOH) (at0:Nat) (c0:Code) (κ0:KC):Nat->Code->KC->Prop
 | root:Place E J OP RG at0 c0 κ0 at0 c0 κ0
 | seqL {n:Nat} {a b:Code} {κ:KC} (h:Place E J OP RG at0 c0 κ0 n (.seq a b) κ):Place E J OP RG at0 c0 κ0 n a (qHi (fun S=>qBW E J OP RG (n+nl a) b S κ) κ)
 | seqR {n:Nat} {a b:Code} {κ:KC} (h:Place E J OP RG at0 c0 κ0 n (.seq a b) κ):Place E J OP RG at0 c0 κ0 (n+nl a) b κ
 | condL {n:Nat} {c:Operand} {a b:Code} {κ:KC} (h:Place E J OP RG at0 c0 κ0 n (.cond c a b) κ):Place E J OP RG at0 c0 κ0 n a κ
 | condR {n:Nat} {c:Operand} {a b:Code} {κ:KC} (h:Place E J OP RG at0 c0 κ0 n (.cond c a b) κ):Place E J OP RG at0 c0 κ0 (n+nl a) b κ
 | block {n id:Nat} {b:Code} {κ:KC} (h:Place E J OP RG at0 c0 κ0 n (.block id b) κ):Place E J OP RG at0 c0 κ0 n b (nY id κ)
 | loop {n:Nat} {b:Code} {κ:KC} (h:Place E J OP RG at0 c0 κ0 n (.loop b) κ):Place E J OP RG at0 c0 κ0 (n+1) b (bG J n κ)
 | scope {n:Nat} {b:Code} {κ:KC} (h:Place E J OP RG at0 c0 κ0 n (.scope b) κ):Place E J OP RG at0 c0 κ0 n b κ
section
variable {E:Env} {n0:Lim} {H0:AH} {g0:zF} {QQ:Nat->Res1->Prop} {J:Nat->St->Tree} {OP:qK0} {RG:qOH} {at0:Nat} {c0:Code} {κ0:KC}
theorem Kt.mono {n n':Nat} (hn:n<=n') {κ:KC}:∀ e fr H,Kt E n0 H0 g0 QQ n κ e fr H->Kt E n0 H0 g0 QQ n' κ e fr H:=by
 rintro e fr H ⟨m,hm,h⟩
 exact ⟨m,lT hm hn,h⟩
theorem qHO {P:Nat->St} {RH:Array Tmp->Code->Code->KC->List (Nat × Tree)} {n:Nat} {c:Code} {κ:KC} (hc:Place E J OP RG at0 c0 κ0 n c κ):∀ x∈xJ E P J OP RG RH n c κ,x∈xJ E P J OP RG RH at0 c0 κ0:=by
 induction hc with
 | root=>exact fun x hx=>hx
 | seqL hc ih=>exact fun x hx=>ih x (by simp only [xJ]; exact List.mem_append_left _ hx)
 | seqR hc ih=>exact fun x hx=>ih x (by simp only [xJ]; exact List.mem_append_right _ hx)
 | condL hc ih=>exact fun x hx=>ih x (by simp only [xJ]; exact List.mem_append_left _ hx)
 | condR hc ih=>exact fun x hx=>ih x (by simp only [xJ]; exact List.mem_append_right _ hx)
 | block hc ih=>exact fun x hx=>ih x (by simp only [xJ]; exact hx)
 | loop hc ih=>exact fun x hx=>ih x (by simp only [xJ]; exact mC _ hx)
 | scope hc ih=>exact fun x hx=>ih x (by simp only [xJ]; exact hx)
def qK3 (E:Env) (n0:Lim) (H0:AH) (g0:zF) (QQ:Nat->Res1->Prop) (J:Nat->St->Tree) (OP:qK0) (RG:qOH) (at0:Nat) (c0:Code) (κ0:KC) (n:Nat):Prop :=
 ∀ k b κ,Place E J OP RG at0 c0 κ0 k (.loop b) κ->∀ S ρ ve lb g fr H,SR n0 H0 g0 S ρ ve lb g fr H->wp E (Holds E) (QQ n) (J k S) ρ->Fin E (.loop b) (Kt E n0 H0 g0 QQ n κ) fr H
def qCP (E:Env) (n0:Lim) (H0:AH) (g0:zF) (QQ:Nat->Res1->Prop) (J:Nat->St->Tree) (OP:qK0) (RG:qOH) (at0:Nat) (c0:Code) (κ0:KC):Prop :=
 ∀ k f ps a b κ,Place E J OP RG at0 c0 κ0 k (.rangeFunc f ps a b) κ->∀ n S ρ ve lb g fr H,SR n0 H0 g0 S ρ ve lb g fr H->wp E (Holds E) (QQ n) (RG f ps a b S κ) ρ->Fin E (.rangeFunc f ps a b) (Kt E n0 H0 g0 QQ n κ) fr H
theorem mL (he:EOk E) (hO:qM5 E n0 H0 g0 QQ OP) (hR:qCP E n0 H0 g0 QQ J OP RG at0 c0 κ0) {n:Nat} (hj:∀ m,m<=n->qK3 E n0 H0 g0 QQ J OP RG at0 c0 κ0 m) :
  ∀ (c:Code) (k:Nat) (κ:KC),Place E J OP RG at0 c0 κ0 k c κ->∀ m,m<=n->∀ S ρ ve lb g fr H,SR n0 H0 g0 S ρ ve lb g fr H->wp E (Holds E) (QQ m) (qBW E J OP RG k c S κ) ρ->Fin E c (Kt E n0 H0 g0 QQ m κ) fr H
 | .seq a b,k,κ,hc,m,hm,S,ρ,ve,lb,g,fr,H,h,hw=>by
  refine qGR ((mL he hO hR hj a k _ hc.seqL m hm S ρ ve lb g fr H h hw).mono ?_)
  rintro e fr1 H1 ⟨m1,hm1,S1,ρ1,ve1,lb1,g1,h1,hw1⟩
  cases e with
  | normal=>exact (mL he hO hR hj b _ κ hc.seqR m1 (lT hm1 hm) S1 ρ1 ve1 lb1 g1 fr1 H1 h1 hw1).mono (Kt.mono hm1)
  | exit id=>exact ⟨m1,hm1,S1,ρ1,ve1,lb1,g1,h1,hw1⟩
  | ret=>exact ⟨m1,hm1,S1,ρ1,ve1,lb1,g1,h1,hw1⟩
 | .cond c a b,k,κ,hc,m,hm,S,ρ,ve,lb,g,fr,H,h,hw=>by
  simp only [qBW] at hw
  have Tt:∀ S',SR n0 H0 g0 S' ρ ve lb g fr H->ev E fr c=some (.bool true)->wp E (Holds E) (QQ m) (qBW E J OP RG k a S' κ) ρ->Fin E (.cond c a b) (Kt E n0 H0 g0 QQ m κ) fr H:=by
   intro S' h' hv hw
   obtain ⟨e,fr1,H1,r1,r2⟩:=mL he hO hR hj a k κ hc.condL m hm S' ρ ve lb g fr H h' hw
   exact ⟨e,fr1,H1,r1.condT he hv,r2⟩
  have Ff:∀ S',SR n0 H0 g0 S' ρ ve lb g fr H->ev E fr c=some (.bool false)->wp E (Holds E) (QQ m) (qBW E J OP RG (k+nl a) b S' κ) ρ->Fin E (.cond c a b) (Kt E n0 H0 g0 QQ m κ) fr H:=by
   intro S' h' hv hw
   obtain ⟨e,fr1,H1,r1,r2⟩:=mL he hO hR hj b (k+nl a) κ hc.condR m hm S' ρ ve lb g fr H h' hw
   exact ⟨e,fr1,H1,r1.condF he hv,r2⟩
  split at hw
  ·rename_i hv; exact Tt S h (z9 (E:=E) h hv).2 hw
  ·rename_i hv; exact Ff S h (z9 (E:=E) h hv).2 hw
  ·rename_i i hv
   obtain ⟨hp,hw⟩:=jP hw
   obtain ⟨t,hd,hw⟩:=sF hw
   have hv':=(z9 (E:=E) h hv).2
   simp only [SV.val,eW h.toSM hp hd] at hv'
   cases t with
   | true=>exact Tt _ (oU h hp hd) hv' hw
   | false=>exact Ff _ (oU h hp hd) hv' hw
  cases hw
 | .block id b,k,κ,hc,m,hm,S,ρ,ve,lb,g,fr,H,h,hw=>by
  refine qBH ((mL he hO hR hj b k _ hc.block m hm S ρ ve lb g fr H h hw).mono ?_)
  rintro e fr1 H1 ⟨m1,hm1,S1,ρ1,ve1,lb1,g1,h1,hw1⟩
  cases e with
  | normal=>exact ⟨m1,hm1,S1,ρ1,ve1,lb1,g1,h1,hw1⟩
  | ret=>exact ⟨m1,hm1,S1,ρ1,ve1,lb1,g1,h1,hw1⟩
  | exit id' =>
   simp only [nY,qV] at hw1
   simp only [rI]
   split
   ·rename_i e; rw [if_pos e] at hw1
    exact ⟨m1,hm1,S1,ρ1,ve1,lb1,g1,h1,hw1⟩
   rename_i e; rw [if_neg e] at hw1
   exact ⟨m1,hm1,S1,ρ1,ve1,lb1,g1,h1,hw1⟩
 | .loop b,k,κ,hc,m,hm,S,ρ,ve,lb,g,fr,H,h,hw=>hj m hm k b κ hc S ρ ve lb g fr H h hw
 | .scope b,k,κ,hc,m,hm,S,ρ,ve,lb,g,fr,H,h,hw=>qBG (mL he hO hR hj b k κ hc.scope m hm S ρ ve lb g fr H h hw)
 | .region id ops draw,k,κ,hc,m,hm,S,ρ,ve,lb,g,fr,H,h,hw=>by
  cases draw with
  | true =>
   have hw:wp E (Holds E) (QQ m) (sx E qSI 1 (.region id ops true) S κ) ρ:=hw
   exact (qO1 he h hw).mono fun e fr1 H1 hk=>⟨m,lR _,hk⟩
  | false =>
   have hw:wp E (Holds E) (QQ m) (qHr OP ops ops.toList S (κ .normal)) ρ:=hw
   obtain ⟨S',ρ',ve',lb',g',fr',H',r1,r2,r3⟩:=qCd hO m ops.toList 0 h hw
   exact ⟨_,fr',H',.region he r3,m,lR _,S',ρ',ve',lb',g',r1,r2⟩
 | .skip,k,κ,hc,m,hm,S,ρ,ve,lb,g,fr,H,h,hw=>⟨_,fr,H,.skip,m,lR _,S,ρ,ve,lb,g,h,hw⟩
 | .label l,k,κ,hc,m,hm,S,ρ,ve,lb,g,fr,H,h,hw=>⟨_,fr,H,.label,m,lR _,S,ρ,ve,lb,g,h,hw⟩
 | .ret,k,κ,hc,m,hm,S,ρ,ve,lb,g,fr,H,h,hw=>⟨_,fr,H,.ret,m,lR _,S,ρ,ve,lb,g,h,hw⟩
 | .exit id,k,κ,hc,m,hm,S,ρ,ve,lb,g,fr,H,h,hw=>⟨_,fr,H,.exit,m,lR _,S,ρ,ve,lb,g,h,hw⟩
 | .rangeFunc f ps a b,k,κ,hc,m,hm,S,ρ,ve,lb,g,fr,H,h,hw=>hR k f ps a b κ hc m S ρ ve lb g fr H h hw
 | .goto _,k,κ,hc,m,hm,S,ρ,ve,lb,g,fr,H,h,hw=>by cases hw
 | .refuse _,k,κ,hc,m,hm,S,ρ,ve,lb,g,fr,H,h,hw=>by cases hw
end
section
variable {E:Env} {n0:Lim} {H0:AH} {g0:zF} {S:St} {ρ:List D} {ve:Nat->Value} {lb:Nat->Nat} {g:zF} {fr:Fr} {H:AH} {Q:Res1->Prop} {HS:FuncId->List D->D->Prop} {I:qQv}
end
end Go.Am
namespace Go.Am
open Go
section
variable {E:Env} {H H1 H2 H3:AH} {fr fr1 fr2:Fr}
open Classical in
theorem wC.of {l:Nat} {args:List Value} {pd0:Option Code} {t0:Fr} {ps0:List Tmp} {a0 b0:Code} {rt0:Nat} {pd t:_} {ps:List Tmp} {a b:Code} {r:Nat} {st3:LoopState} {pd3:Option Code} {t3:Fr} {qLN:List Tmp} {a3 b3:Code} {r3:Nat} {e:AExit}
  (hb:H.blocks.get l=some ⟨.loop .ready pd0 t0 ps0 a0 b0,rt0,true⟩) (hbind:wM t0 ps0 args=some fr)
  (h1:vG E a0 fr H .normal fr1 H1) (hl1:H1.blocks.get l=some ⟨.loop .ready pd t ps a b,r,true⟩)
  (h2:vG E b0 fr1 (H1.write l ⟨.loop .ready pd t ps a b,r,true⟩ (.loop .busy pd t ps a b)) e fr2 H3) (hl3:H3.blocks.get l=some ⟨.loop st3 pd3 t3 qLN a3 b3,r3,true⟩) :
  wC E l args H (.bool (wB e).isNone) (H3.write l ⟨.loop st3 pd3 t3 qLN a3 b3,r3,true⟩ (.loop (bif (wB e).isNone then .ready else .done) (wB e) t3 qLN a3 b3)):=by
 let Hb:=H1.write l ⟨.loop .ready pd t ps a b,r,true⟩ (.loop .busy pd t ps a b)
 have hne:Hb≠H:=by
  intro e
  have:Hb.blocks.get l=some ⟨.loop .busy pd t ps a b,r,true⟩:=by
   show (H1.write _ _ _).blocks.get l=_
   rw [AH.get_write,if_pos rfl]
  rw [e,hb] at this
  cases this
 let ih:Cmd->AH->yX:=fun cmd X=>if cmd=.code a0 fr/\X=H then some (.ex .normal fr1,H1) else if cmd=.code b0 fr1/\X=Hb then some (.ex e fr2,H3) else none
 have inv:∀ {cmd:Cmd} {X:AH} {q:Out × AH},ih cmd X=some q->(cmd=.code a0 fr/\X=H/\q=(.ex .normal fr1,H1))∨(cmd=.code b0 fr1/\X=Hb/\q=(.ex e fr2,H3)):=by
  intro cmd X q hh
  simp only [ih] at hh
  split at hh
  ·rename_i hc; cases hh; exact .inl ⟨hc.1,hc.2,rfl⟩
  split at hh
  ·rename_i hc; cases hh; exact .inr ⟨hc.1,hc.2,rfl⟩
  cases hh
 have io:IhOK E ih:=by
  refine { up:=?_,call:=?_,round:=?_,code:=?_,codev:=?_ }
  ·intro cmd X out Y hh
   rcases inv hh with ⟨_,h2',h3⟩ | ⟨_,h2',h3⟩
   ·cases h3; rw [h2']; exact h1.1
   cases h3; rw [h2']; exact h2.1
  ·intro f args X v Y hh; rcases inv hh with ⟨h,_⟩ | ⟨h,_⟩ <;> cases h
  ·intro f args X v Y hh; rcases inv hh with ⟨h,_⟩ | ⟨h,_⟩ <;> cases h
  ·intro c2 fr2 X e2 fr3 Y hh
   rcases inv hh with ⟨h,rfl,h3⟩ | ⟨h,h',h3⟩
   ·cases h; cases h3; exact h1.2
   cases h; cases h3; rw [h']; exact h2.2
  intro c2 fr2 X v2 Y hh
  rcases inv hh with ⟨_,_,h3⟩ | ⟨_,_,h3⟩ <;> cases h3
 have i1:ih (.code a0 fr) H=some (.ex .normal fr1,H1):=by simp [ih]
 have i2:ih (.code b0 fr1) Hb=some (.ex e fr2,H3):=by
  simp only [ih]
  rw [if_neg (fun h=>hne h.2),if_pos (by simp)]
 have hrun:kE E ih l args H=some (.val (.bool (wB e).isNone),H3.write l ⟨.loop st3 pd3 t3 qLN a3 b3,r3,true⟩ (.loop (bif (wB e).isNone then .ready else .done) (wB e) t3 qLN a3 b3)):=by
  have i2':ih (.code b0 fr1) (H1.write l ⟨.loop .ready pd t ps a b,r,true⟩ (.loop .busy pd t ps a b))=some (.ex e fr2,H3):=i2
  simp only [kE,hb,hbind,i1,hl1,i2',hl3]
 obtain ⟨v,hv,hr⟩:=qC8 io hrun
 cases hv
 exact hr
open Classical in
theorem vG.range (he:EOk E) {f:Operand} {params:Array Tmp} {assign bd:Code} {g:FuncId} {fn:Func} {first cap:List Value} {v:Value} {st:LoopState} {pend:Option Code} {t:Fr} {ps:List Tmp} {a b:Code} {r:Nat} {e:AExit}
  (hrd:fr.rd=false) (hev:ev E fr f=some (.func (.func g) ⟨first⟩ ⟨cap⟩)) (hfn:E.funcs.get g=some fn)
  (hc:jL E g (first++[.func (.yield H.next) #[] #[]]++cap) (H.new (.loop .ready none ⟨fr.sz,true,fr.t⟩ params.toList assign bd)) v H2) (hn:H.next+1<=H2.next)
  (hl:H2.blocks.get H.next=some ⟨.loop st pend t ps a b,r,true⟩) (hst:st≠.busy) (hp:(pend=none/\e=.normal)∨(pend=some .ret/\e=.ret)∨∃ id,pend=some (.exit id)/\e=.exit id) :
  vG E (.rangeFunc f params assign bd) fr H e fr (H2.write H.next ⟨.loop st pend t ps a b,r,true⟩ (.loop .exhausted pend t ps a b)):=by
 let Hw:=H2.write H.next ⟨.loop st pend t ps a b,r,true⟩ (.loop .exhausted pend t ps a b)
 let Hn:=H.new (.loop .ready none ⟨fr.sz,true,fr.t⟩ params.toList assign bd)
 let ih:Cmd->AH->yX:=fun cmd X=>if cmd=.call g (first++[.func (.yield H.next) #[] #[]]++cap)/\X=Hn then some (.val v,H2) else if (∃ c,pend=some c/\cmd=.code c fr)/\X=Hw then some (.ex e fr,Hw) else none
 have inv:∀ {cmd:Cmd} {X:AH} {q:Out × AH},ih cmd X=some q->(cmd=.call g (first++[.func (.yield H.next) #[] #[]]++cap)/\X=Hn/\q=(.val v,H2))∨(∃ c,pend=some c/\cmd=.code c fr/\X=Hw/\q=(.ex e fr,Hw)):=by
  intro cmd X q hh
  simp only [ih] at hh
  split at hh
  ·rename_i hc; cases hh; exact .inl ⟨hc.1,hc.2,rfl⟩
  split at hh
  ·rename_i hc; cases hh
   obtain ⟨⟨c,h1,h2⟩,h3⟩:=hc
   exact .inr ⟨c,h1,h2,h3,rfl⟩
  cases hh
 have hcode:∀ c,pend=some c->vG E c fr Hw e fr Hw:=by
  intro c hc
  rcases hp with ⟨h1,_⟩ | ⟨h1,h2⟩ | ⟨id,h1,h2⟩
  ·rw [h1] at hc; cases hc
  ·rw [h1] at hc; cases hc; subst h2; exact .ret
  rw [h1] at hc; cases hc; subst h2; exact .exit
 have io:IhOK E ih:=by
  refine { up:=?_,call:=?_,round:=?_,code:=?_,codev:=?_ }
  ·intro cmd X out Y hh
   rcases inv hh with ⟨_,h2',h3⟩ | ⟨c,_,_,h2',h3⟩
   ·cases h3; rw [h2']; exact hn
   cases h3; rw [h2']; exact lR _
  ·intro f args X v Y hh
   rcases inv hh with ⟨h,rfl,h3⟩ | ⟨_,_,h,_⟩
   ·cases h; cases h3; exact hc
   cases h
  ·intro f args X v Y hh; rcases inv hh with ⟨h,_⟩ | ⟨_,_,h,_⟩ <;> cases h
  ·intro c2 fr2 X e2 fr3 Y hh
   rcases inv hh with ⟨h,_⟩ | ⟨c,h1,h,h',h3⟩
   ·cases h
   cases h; cases h3; rw [h']; exact (hcode _ h1).2
  intro c2 fr2 X v2 Y hh
  rcases inv hh with ⟨h,_⟩ | ⟨_,_,_,_,h3⟩
  ·cases h
  cases h3
 have i1:ih (.call g (first++[.func (.yield H.next) #[] #[]]++cap)) Hn=some (.val v,H2):=by simp [ih]
 have hup:H.next<=Hw.next:=by show H.next<=H2.next; omega
 have hrun:bW E ih fr f params.toList assign bd H=some (.ex e fr,Hw):=by
  have i1':ih (.call g ((⟨first⟩:Array Value).toList++[.func (.yield H.next) #[] #[]]++(⟨cap⟩:Array Value).toList)) (H.new (.loop .ready none ⟨fr.sz,true,fr.t⟩ params.toList assign bd))=some (.val v,H2):=i1
  simp only [bW,hrd,hev,hfn,i1',hl,if_neg hst]
  rcases hp with ⟨rfl,rfl⟩ | ⟨rfl,rfl⟩ | ⟨id,rfl,rfl⟩
  ·rfl
  ·simp only [ih]; rw [if_neg (fun h=>by cases h.1),if_pos ⟨⟨_,rfl,rfl⟩,rfl⟩]
  simp only [ih]; rw [if_neg (fun h=>by cases h.1),if_pos ⟨⟨_,rfl,rfl⟩,rfl⟩]
 obtain ⟨e',fr',ho,hr⟩:=qDe he io hrun
 cases ho
 exact ⟨hup,hr⟩
end
section
variable {E:Env} {n0:Lim} {H0:AH} {g0:zF} {S:St} {ρ:List D} {ve:Nat->Value} {lb:Nat->Nat} {g:zF} {fr:Fr} {H:AH} {Q:Res1->Prop} {HS:FuncId->List D->D->Prop} {I:qQv}
end
end Go.Am
namespace Go.Am
open Go
def qEG (E:Env) (I:qQv):Prop:=∀ g fn c,qJQ I g=some (fn,c)->E.funcs.get g=some fn/\fn.body=some c
theorem qEG.nil {E:Env}:qEG E []:=fun _ _ _ h=>by cases h
theorem qEG.cons {E:Env} {f:FuncId} {fn:Func} {c:Code} {I:qQv} (h1:E.funcs.get f=some fn) (h2:fn.body=some c) (h:qEG E I):qEG E ((f,fn,c)::I):=by
 intro g gn d hg
 simp only [qJQ,qV] at hg
 split at hg
 ·rename_i e; cases hg; subst e; exact ⟨h1,h2⟩
 exact h g gn d hg
section
variable {E:Env} {n0:Lim} {H0:AH} {g0:zF} {S:St} {ρ:List D} {ve:Nat->Value} {lb:Nat->Nat} {g:zF} {fr:Fr} {H:AH} {Q:Res1->Prop} {I:qQv} {Y:Option Site}
end
abbrev Qf (E:Env) (Ts:Nat->Tree) (d:D) (n:Nat):Res1->Prop:=fun r=>match r with
 | .ret d'=>d'=d
 | .jump k' ds=>qQE E (Holds E) Ts n k' ds d
section
variable {E:Env} {n0:Lim} {H0:AH} {g0:zF} {Ts:Nat->Tree} {d:D} {J:Nat->St->Tree} {OP:qK0} {RG:qOH} {at0:Nat} {c0:Code} {κ0:KC}
theorem qBu (he:EOk E) (hO:qM5 E n0 H0 g0 (Qf E Ts d) OP) (hR:qCP E n0 H0 g0 (Qf E Ts d) J OP RG at0 c0 κ0) {pats:Nat->Pat} {szs:Nat->Nat} {RH:Array Tmp->Code->Code->KC->List (Nat × Tree)} (hJ:J=fun k S=>g9 (szs k) (pats k) k S)
  (hT:∀ x∈xJ E (fun k=>(pats k).st (szs k)) J OP RG RH at0 c0 κ0,Ts x.1=x.2) (hP:∀ k κ b,Place E J OP RG at0 c0 κ0 k (.loop b) κ->n0.F.length<=(pats k).blks.length) :
  ∀ n m,m<=n->qK3 E n0 H0 g0 (Qf E Ts d) J OP RG at0 c0 κ0 m
 | 0,m,hm=>by
  intro k b κ hc S ρ ve lb g fr H h hw
  rw [Nat.le_zero.1 hm,hJ] at hw
  obtain ⟨ds,ve',g',_,hq⟩:=sE h hw (hP k κ b hc)
  cases hq
 | n+1,m,hm=>by
  have ih:=qBu he hO hR hJ hT hP n
  rcases Nat.lt_or_ge n m with hlt | hge
  ·have:m=n+1:=by omega
   subst this
   intro k b κ hc S ρ ve lb g fr H h hw
   have hw2:=hw
   rw [hJ] at hw2
   obtain ⟨ds,ve',g',h',hq⟩:=sE h hw2 (hP k κ b hc)
   have hTk:Ts k=qBW E J OP RG (k+1) b ((pats k).st (szs k)) (bG J k κ):=by
    have:=qHO (P:=fun k=>(pats k).st (szs k)) (RH:=RH) hc (k,qBW E J OP RG (k+1) b ((pats k).st (szs k)) (bG J k κ)) (by simp only [xJ]; exact List.mem_cons_self)
    exact hT _ this
   have hq':wp E (Holds E) (Qf E Ts d n) (Ts k) ds:=hq
   rw [hTk] at hq'
   refine qD7 ((mL he hO hR ih b (k+1) _ hc.loop n (lR _) _ ds ve' lb g' fr H h' hq').mono ?_)
   rintro e fr1 H1 ⟨m1,hm1,S1,ρ1,ve1,lb1,g1,h1,hw1⟩
   cases e with
   | normal=>exact (ih m1 hm1 k b κ hc S1 ρ1 ve1 lb1 g1 fr1 H1 h1 hw1).mono (Kt.mono (by omega))
   | exit id=>exact ⟨m1,by omega,S1,ρ1,ve1,lb1,g1,h1,hw1⟩
   | ret=>exact ⟨m1,by omega,S1,ρ1,ve1,lb1,g1,h1,hw1⟩
  exact ih m hge
end
end Go.Am
namespace Go.Am
open Go
section
variable {E:Env} {n0:Lim} {H0:AH} {g0:zF} {S:St} {ρ:List D} {ve:Nat->Value} {lb:Nat->Nat} {g:zF} {fr:Fr} {H:AH} {I:qQv}
theorem SR.drop (h : SR n0 H0 g0 S ρ ve lb g fr H) (b : Nat) : SR n0 H0 g0 { S with blks := S.blks.set b none } ρ ve lb g fr H := by
  have inv : ∀ c x, (S.blks.set b none)[c]? = some (some x) -> S.blks[c]? = some (some x) /\ c ≠ b := by
    intro c x hc
    rw [List.getElem?_set] at hc
    split at hc
    · split at hc <;> cases hc
    · rename_i hne; exact ⟨hc, fun e => hne e.symm⟩
  have lv : ∀ c, St.live { S with blks := S.blks.set b none } c -> S.live c := fun c ⟨x, hx⟩ => ⟨x, (inv c x hx).1⟩
  have hlen : (S.blks.set b none).length = S.blks.length := by simp
  refine { len := h.len, wf := h.wf, mem := h.mem, base := h.base, fix := ⟨by rw [hlen]; exact h.fix.1, h.fix.2⟩, vars := h.vars, blks := ?_, sepLG := fun c hc => h.sepLG c (lv c hc), sepFG := h.sepFG, sepL := fun c d hc hd => h.sepL c d (lv c hc) (lv d hd), sepF := h.sepF, sepX := fun c i hc => h.sepX c i (lv c hc),
           sz := h.sz, rd := h.rd, slots := ?_, sav := by rw [hlen]; exact h.sav, keep := h.keep, gk := h.gk, low := h.low }
  · intro c x hx
    obtain ⟨q1, q2⟩ := h.blks c x (inv c x hx).1
    exact ⟨by rw [hlen]; exact q1, q2⟩
  · intro t x hx
    obtain ⟨q1, q2⟩ := h.slots t x hx
    exact ⟨by rw [hlen]; exact q1, q2⟩
end
end Go.Am
